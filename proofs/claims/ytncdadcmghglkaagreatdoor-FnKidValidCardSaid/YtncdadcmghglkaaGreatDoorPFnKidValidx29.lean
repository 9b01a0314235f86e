/- Printed walks; conditions: those in each statement. -/
import Derived.Test.YtncdadcmghglkaaGreatDoorVFnKidValidQt
import Derived.Test.YtncdadcmghglkaaGreatDoorVFnKidValidYt
import Derived.Test.YtncdadcmghglkaaGreatDoorPFnKidValidx0
import Derived.Test.YtncdadcmghglkaaGreatDoorPFnKidValidx10
import Derived.Test.YtncdadcmghglkaaGreatDoorPFnKidValidx19
import Derived.Test.YtncdadcmghglkaaGreatDoorPFnKidValidx20
import Derived.Test.YtncdadcmghglkaaGreatDoorPFnKidValidx26
import Derived.Test.YtncdadcmghglkaaGreatDoorPFnKidValidx28
-- short
-- dense
-- sq
-- sq2
namespace Go.Proofs.YtncdadcmghglkaaGreatDoor.PFnKidValid
open Go.RowKit Go.Proofs.YtncdadcmghglkaaGreatDoor.X Go.Proofs.YtncdadcmghglkaaGreatDoorW.bI Go.Proofs.YtncdadcmghglkaaGreatDoorW.gq Go.Proofs.YtncdadcmghglkaaGreatDoorW.iJ
attribute [local go_sem] kJ kK mD mF jv jw kL kM   -- for this text's walks alone
set_option linter.unusedVariables false
set_option maxHeartbeats 8000000
set_option maxRecDepth 100000
set_option linter.unusedSimpArgs false
def vw.f (k : Nat) (l0 : List Int) : Option ((List (gU)) × List ByteArray × (List (mY))) := (tY.f l0).bind fun afw => ((dY.f k afw.1 afw.2 3).bind fun abt => ((dO.f k afw.1 abt.2.2.2 abt.1 abt.2.1 abt.2.2.1).bind fun afx => (some (afx.1, afx.2.1, afx.2.2.1))))
theorem vw.calls {k c0 : Nat} {A0 : Option Addr} {l0 : List Int} {r1 : List (gU)} {r2 : List ByteArray} {r3 : List (mY)} {w : World} (hr0 : Kd.C (Kd.int .u8) w A0 l0.length l0) (hc0 : l0.length ≤ c0) (h : vw.f k l0 = some (r1, r2, r3)) :
  Calls Tryz.prog 65 #[.slice A0 l0.length c0] w fun e w' => ∃ ql DT E8 : Value, e = .returned (.agg #[ql, DT, E8]) ∧ Kd.R qj 69 w' w.heap.size (fun _ => True) ql r1 ∧ Kd.R Kd.string 9 w' w.heap.size (fun _ => True) DT r2 ∧ Kd.R k28 28 w' w.heap.size (fun k_ => some k_ ≠ (ql : Value).ownBlock ∧ some k_ ≠ (DT : Value).ownBlock) E8 r3 ∧ Below w.heap.size w w' := by
 have Dj := Tryz.underlying28
 have HR0 := ak hr0
 have yu := ak hc0
 clear hr0 hc0
 have HB := ak (Below.refl w.heap.size w)
 unfold vw.f at h; have H := h
 clear h
 replace H := bd H
 obtain ⟨⟨ait, aAX⟩, A2, H⟩ := H
 (try dsimp only at H)
 replace H := bd H
 obtain ⟨⟨au0, au1, au2, aiu⟩, A3, H⟩ := H
 (try dsimp only at H)
 replace H := bd H
 obtain ⟨⟨aAY, aAZ, aA0, aIS⟩, A4, H⟩ := H
 (try dsimp only at H)
 obtain ⟨rfl, rfl, rfl⟩ := s3 H
 go_enter Tryz.func65, Tryz.ntmps65
 go_wp2_with (first | (refine bX HB 2 #[.slice none 0 0, .slice none 0 0, .slice none 0 0] 28 ?_; intro afy w5 FN aDS hb; replace HB := bs HB hb; clear hb) | (refine gL 55 5 Tryz.func55 #[.slice A0 l0.length c0] ?_; (with_reducible refine (tY.calls w ?fU HR0.out yu.out A2.out).mono ?_); (case fU => exact o7); rintro e w6 ⟨acJ, rfl, hi, hb, hb2⟩; refine ⟨_, rfl, ?_⟩; have afz := ak (hi); have acK := ak (aK.aef hi (lV (ub FN.out) hb2) (by decide)); have MN := ak (Ne.symm (aK.aef hi (lV (ub FN.out) hb2) (by decide))); replace FN := kb FN hb2; replace HB := ak (hb); clear hb; (try clear hb2); (try clear hi)) | (refine gL 56 8 Tryz.func56 #[.pointer (some ⟨acJ, 0, none⟩), .int .i64 3] ?_; (with_reducible refine (dY.calls k acJ ait aAX 3 au0 au1 au2 aiu w _ ?fU ?iW A3.out).mono ?_); (case fU => exact oZ); (case iW => exact o7); rintro e w7 ⟨aIT, aIU, aIV, rfl, ho0, ho1, ho2, hi, hb, hk⟩; refine ⟨_, rfl, ?_⟩; have Qx := ak (Kd.aC ho0 (aj o7)); have Oa := ak (Kd.aC ho1 (aj o7)); have Tj := ak (Kd.aC (Kd.nN ho2 (g := afy) (o := .cells #[.slice none 0 0, .slice none 0 0, .slice none 0 0] 28 (0, 0)) (ub FN.out)) (aj o7)); replace FN := kc FN hk MN; replace HB := ak (hb); replace afz := ak (hi); clear hb; (try clear hk); (try clear hi); (try clear ho0); (try clear ho1); (try clear ho2); obtain ⟨RH, O9, eo8⟩ := Kd.aV Qx.out; subst eo8; obtain ⟨Ao9, co9, eo9⟩ := Kd.aV Oa.out; subst eo9; obtain ⟨OE, MO, aoq⟩ := Kd.aV Tj.out; subst aoq) | (refine gL 68 9 Tryz.func68 #[.pointer (some ⟨acJ, 0, none⟩), .agg #[.slice RH au0.length O9, .slice Ao9 au1.length co9, .slice OE au2.length MO]] ?_; (with_reducible refine (dO.calls w ?fU ?iW (Kd.Qy (aK.apart (show aK w _ acJ ait aiu from oZ) (ur Qx.out) (by decide)) (fun _ h_ => h_.2)) ((Kd.aH Qx.out).2.1) (cu ((Kd.aH Oa.out).2.2)) ((Kd.aH Oa.out).2.1) (oh (aK.own_ne afz.out Oa.out (by decide))) (Kd.Qy (aK.apart (show aK w _ acJ ait aiu from oZ) (ur Tj.out) (by decide)) (fun _ h_ => h_.2)) ((Kd.aH Tj.out).2.1) A4.out).mono ?_); (case fU => exact oZ); (case iW => exact o7); rintro e Ub ⟨aIW, aIX, aIY, rfl, ho0, ho1, ho2, hi, hb, hk⟩; refine ⟨_, rfl, ?_⟩; have au3 := ak (Kd.aC (Kd.gK ho0 (Kd.kU (ur Qx.out))) (aj o7)); have au4 := ak (Kd.aC (Kd.gK ho1 (Kd.kU (ur Oa.out))) (aj o7)); have au5 := ak (Kd.aC (Kd.nN (Kd.gK (Kd.gK (Kd.gK ho2 (Kd.kU (ur Qx.out))) (Kd.kU (ur Oa.out))) (Kd.kU (ur Tj.out))) (g := afy) (o := .cells #[.slice none 0 0, .slice none 0 0, .slice none 0 0] 28 (0, 0)) (ub FN.out)) (aj o7)); replace FN := kc FN hk MN; replace Qx := kj Qx hk ho0; replace Oa := kj Oa hk ho1; replace Tj := ak (Kd.bn (Kd.tV (Kd.tV (Kd.tV (Kd.UU (aK.apart (show aK w _ acJ ait aiu from oZ) (ur Tj.out) (by decide)) hk) (Kd.fO ho0)) (Kd.fO ho1)) (Kd.fO ho2)) (fun _ h_ => h_.1)); replace HB := ak (hb); replace afz := ak (hi); clear hb; (try clear hk); (try clear hi); (try clear ho0); (try clear ho1); (try clear ho2); obtain ⟨E_, ES, Uc⟩ := Kd.aV au3.out; subst Uc; have ajM := MN.out; have ajN := acK.out; have z14 := jW FN.out; obtain ⟨LU, LV, Ue⟩ := Kd.aV au4.out; subst Ue; obtain ⟨WC, WE, UQ⟩ := Kd.aV au5.out; subst UQ))
 refine bodyPost_ret (results_cell_row rfl _ _ afy 28 #[.slice E_ aAY.length ES, .slice LU aAZ.length LV, .slice WC aA0.length WE] (0, 0) _ rfl bq Tryz.underlying28 rfl (by kernel_rfl)) rfl ?_
 exact ⟨_, _, _, er, rr, rr, rr, o7⟩
def mg.f (k : Nat) (l0 : List Int) : Option ((List (gU)) × List ByteArray × (List (mY))) := (vw.f k l0).bind fun afA => (some (afA.1, afA.2.1, afA.2.2))
theorem mg.calls {k c0 : Nat} {A0 : Option Addr} {l0 : List Int} {r1 : List (gU)} {r2 : List ByteArray} {r3 : List (mY)} {w : World} (hr0 : Kd.C (Kd.int .u8) w A0 l0.length l0) (hc0 : l0.length ≤ c0) (h : mg.f k l0 = some (r1, r2, r3)) :
  Calls Tryz.prog 40 #[.slice A0 l0.length c0] w fun e w' => ∃ ql DT E8 : Value, e = .returned (.agg #[ql, DT, E8]) ∧ Kd.R qj 69 w' w.heap.size (fun _ => True) ql r1 ∧ Kd.R Kd.string 9 w' w.heap.size (fun _ => True) DT r2 ∧ Kd.R k28 28 w' w.heap.size (fun k_ => some k_ ≠ (ql : Value).ownBlock ∧ some k_ ≠ (DT : Value).ownBlock) E8 r3 ∧ Below w.heap.size w w' := by
 have Dj := Tryz.underlying28
 have HR0 := ak hr0
 have yu := ak hc0
 clear hr0 hc0
 have HB := ak (Below.refl w.heap.size w)
 unfold mg.f at h; have H := h
 clear h
 replace H := bd H
 obtain ⟨⟨aA1, aA2, aA3⟩, A2, H⟩ := H
 (try dsimp only at H)
 obtain ⟨rfl, rfl, rfl⟩ := s3 H
 go_enter Tryz.func40, Tryz.ntmps40
 go_wp2_with (first | (refine bX HB 2 #[.slice none 0 0, .slice none 0 0, .slice none 0 0] 28 ?_; intro alB w3 abu aDT hb; replace HB := bs HB hb; clear hb) | (refine gL 65 4 Tryz.func65 #[.slice A0 l0.length c0] ?_; (with_reducible refine (vw.calls (cu (Kd.aN HR0.out HB.out)) yu.out A2.out).mono ?_); rintro e w4 ⟨aIZ, aI0, aI1, rfl, ho0, ho1, ho2, hb⟩; refine ⟨_, rfl, ?_⟩; have au6 := ak (Kd.aC ho0 (aj bb)); have au7 := ak (Kd.aC ho1 (aj bb)); have au8 := ak (Kd.aC (Kd.nN ho2 (g := alB) (o := .cells #[.slice none 0 0, .slice none 0 0, .slice none 0 0] 28 (0, 0)) (ub abu.out)) (aj bb)); replace abu := kb abu hb; replace HB := bz HB hb; clear hb; (try clear ho0); (try clear ho1); (try clear ho2); obtain ⟨Ao5, co5, eo5⟩ := Kd.aV au6.out; subst eo5; have z6 := jW abu.out; obtain ⟨Ao7, co7, eo7⟩ := Kd.aV au7.out; subst eo7; obtain ⟨RH, O9, eo8⟩ := Kd.aV au8.out; subst eo8))
 refine bodyPost_ret (results_cell_row rfl _ _ alB 28 #[.slice Ao5 aA1.length co5, .slice Ao7 aA2.length co7, .slice RH aA3.length O9] (0, 0) _ rfl bq Tryz.underlying28 rfl (by kernel_rfl)) rfl ?_
 exact ⟨_, _, _, er, rr, rr, rr, bb⟩
mutual
def dW.j0 : Nat → Int → Bool → List (gU) → List ByteArray → List (mY) → Option (Bool)
 | 0, _, _, _, _, _ => none
 | k + 1, x4, x21, KD, KE, uj => if x21 = true then ((lK.f k KD KE uj).bind fun alC => (some (x4 == alC))) else (dW.l0 k x4 0 0 KD KE uj)
def dW.l0 : Nat → Int → Int → Int → List (gU) → List ByteArray → List (mY) → Option (Bool)
 | 0, _, _, _, _, _, _ => none
 | k + 1, x4, x5, x6, KD, KE, uj => if x6 < (uj.length : Int) then (if 0 ≤ x6 then ((lF.f k ((bg uj x6).f0) ((bg uj x6).f1) ((bg uj x6).f2)).bind fun alD => (if alD = true then ((nG.f k ((bg uj x6).f0) ((bg uj x6).f1) ((bg uj x6).f2)).bind fun alE => (dW.l0 k x4 (wrap64 (x5 + alE)) (wrap64 (x6 + 1)) KD KE uj)) else (some false))) else (none)) else (if (uj.length : Int) = 0 then (if x4 = 1 then (some true) else (some (x5 == x4))) else (some (x5 == x4)))
end
def dW.f (k : Nat) (l0 : List Int) : Option (Bool) := if (l0.length : Int) > 1048576 then (some true) else ((mg.f k l0).bind fun zM => ((nG.f k zM.1 zM.2.1 zM.2.2).bind fun Qz => ((lK.f k zM.1 zM.2.1 zM.2.2).bind fun alF => (if Qz = alF then (dW.j0 k Qz (Qz == 0) zM.1 zM.2.1 zM.2.2) else (dW.j0 k Qz true zM.1 zM.2.1 zM.2.2)))))
theorem dW.calls {k c0 : Nat} {A0 : Option Addr} {l0 : List Int} {r : Bool} {w : World} (hr0 : Kd.C (Kd.int .u8) w A0 l0.length l0) (hc0 : l0.length ≤ c0) (BX : MaxOk w) (h : dW.f k l0 = some r) :
  Calls Tryz.prog 11 #[.slice A0 l0.length c0] w fun e w' => e = .returned (.bool r) ∧ Below w.heap.size w w' := by
 have Dj := Tryz.underlying28
 have HR0 := ak hr0
 have yu := ak hc0
 clear hr0 hc0
 have HG := ak BX
 clear BX
 have HB := ak (Below.refl w.heap.size w)
 unfold dW.f at h; have H := h
 clear h
 replace H := sp H
 rcases H with ⟨c2, H⟩ | ⟨c2, H⟩
 ·
  have nT : decide (1048576 < (l0.length : Int)) = true := decide_eq_true c2
  have uF : decide (1048576 < l0.length) = true := decide_eq_true (by omega)
  clear c2
  obtain rfl := s1 H
  go_enter Tryz.func11, Tryz.ntmps11
  go_wp2
  go_ret
  exact ⟨er, ul HB.out⟩
 ·
  have nT : decide (1048576 < (l0.length : Int)) = false := decide_eq_false c2
  have uF : decide (1048576 < l0.length) = false := decide_eq_false (by omega)
  clear c2
  replace H := bd H
  obtain ⟨⟨AU, AV, um⟩, A3, H⟩ := H
  (try dsimp only at H)
  replace H := bd H; obtain ⟨Qz, A4, H⟩ := H
  have HC5 := ak H
  clear H
  go_enter Tryz.func11, Tryz.ntmps11
  go_upto_region 5 with (first | (refine gL 40 11 Tryz.func40 #[.slice A0 l0.length c0] ?_; (with_reducible refine (mg.calls (cu HR0.out) yu.out A3.out).mono ?_); rintro e w6 ⟨aDU, aDV, aDW, rfl, ho0, ho1, ho2, hb⟩; refine ⟨_, rfl, ?_⟩; have vC := ak (Kd.aC ho0 (aj (ul HB.out))); have vF := ak (Kd.aC ho1 (aj (ul HB.out))); have vG := ak (Kd.aC ho2 (aj (ul HB.out))); replace HB := bs HB hb; clear hb; (try clear ho0); (try clear ho1); (try clear ho2)) | (refine bY HB 3 #[.slice none 0 0, .slice none 0 0, .slice none 0 0] 28 ?_; intro xW w7 nP aA4 hg hb; replace vC := rb vC hb; replace vF := rb vF hb; replace vG := ak (Kd.sO (Kd.yZ (ur vG.out) xW (Nat.le_of_eq hg.symm)) hb); replace HB := bs HB hb; clear hb hg; obtain ⟨RH, O9, eo8⟩ := Kd.aV vC.out; subst eo8; have z9 := jW nP.out; obtain ⟨OE, MO, aoq⟩ := Kd.aV vF.out; subst aoq; obtain ⟨AA, y9, P7⟩ := Kd.aV vG.out; subst P7) | (refine gB Tryz.func34 (nG.calls ?fU ((Kd.aH vC.out).2.1) ?zk ((Kd.aH vF.out).2.1) ?zl ((Kd.aH vG.out).2.1) ?uS A4.out) ?_; (case fU => refine (Kd.aH (e := 69) (base := w.heap.size) (ok := fun k_ => True) (n := AU.length) (c := O9) ?_).2.2; exact (rh vC)); (case zk => refine (Kd.aH (e := 9) (base := w.heap.size) (ok := fun k_ => True) (n := AV.length) (c := MO) ?_).2.2; exact (rh vF)); (case zl => refine (Kd.aH (e := 28) (base := w.heap.size) (ok := fun k_ => ((some k_ ≠ (.slice RH AU.length O9 : Value).ownBlock ∧ some k_ ≠ (.slice OE AV.length MO : Value).ownBlock) ∧ k_ ≠ xW)) (n := um.length) (c := y9) ?_).2.2; exact (ur (Kd.bn (Kd.lS (p := ⟨xW, 2, none⟩) (Kd.lS (p := ⟨xW, 1, none⟩) (Kd.lS (p := ⟨xW, 0, none⟩) (Kd.bn vG.out (fun k_ hk => (⟨hk, hk.2⟩ : _ ∧ k_ ≠ xW))) (fun _ hk => hk.2) (.slice RH AU.length O9)) (fun _ hk => hk.2) (.slice OE AV.length MO)) (fun _ hk => hk.2) (.slice AA um.length y9)) (fun _ h_ => h_.1)))); (case uS => first | exact HG.out | exact MaxOk.below HG.out bb | (repeat (first | exact HG.out | apply MaxOk.drewN | apply MaxOk.drew))); intro w12 hb; replace vC := rg vC hb; replace vF := rg vF hb; replace vG := ak (Kd.sO (ur (Kd.bn (Kd.lS (p := ⟨xW, 2, none⟩) (Kd.lS (p := ⟨xW, 1, none⟩) (Kd.lS (p := ⟨xW, 0, none⟩) (Kd.bn vG.out (fun k_ hk => (⟨hk, hk.2⟩ : _ ∧ k_ ≠ xW))) (fun _ hk => hk.2) (.slice RH AU.length O9)) (fun _ hk => hk.2) (.slice OE AV.length MO)) (fun _ hk => hk.2) (.slice AA um.length y9)) (fun _ h_ => h_.1))) hb); replace nP := kp nP #[.slice RH AU.length O9, .slice OE AV.length MO, .slice AA um.length y9] hb; replace HB := bz HB hb; clear hb))
  (try simp only [Act.put, qQ, qR, l_c])
  go_cut [21] (fun v21 wc => ∃ (kq : Nat) (afB : Bool), v21 = .bool afB ∧ ah (dW.j0 kq Qz afB AU AV um = some r) ∧ ah (kq ≤ k) ∧ ah (Kd.R qj 69 wc w.heap.size (fun _ => True) (.slice RH AU.length O9) AU) ∧ ah (Kd.R Kd.string 9 wc w.heap.size (fun _ => True) (.slice OE AV.length MO) AV) ∧ ah (Kd.R k28 28 wc w.heap.size (fun k_ => some k_ ≠ ((.slice RH AU.length O9) : Value).ownBlock ∧ some k_ ≠ ((.slice OE AV.length MO) : Value).ownBlock ∧ k_ ≠ xW) (.slice AA um.length y9) um) ∧ ah (wc.heap[xW]? = some (.cells #[(.slice RH AU.length O9), (.slice OE AV.length MO), (.slice AA um.length y9)] 28 (0, 0))) ∧ ah (Below w.heap.size w wc))
  case first =>
   have H := HC5.out
   clear HC5
   replace H := bd H; obtain ⟨alF, A13, H⟩ := H; replace H := sq H
   rcases H with ⟨qC, wI, H⟩ | ⟨c14, qC, wI, H⟩
   ·
    (first | rw [qC] | (simp only [dP, fG]; rw [qC]) | skip)
    have H' := ak H; clear H
    have z15 := jW nP.out
    go_wp2_with (refine gB Tryz.func33 (lK.calls (cu ((Kd.aH vC.out).2.2)) ((Kd.aH vC.out).2.1) (cu ((Kd.aH vF.out).2.2)) ((Kd.aH vF.out).2.1) (cu ((Kd.aH vG.out).2.2)) ((Kd.aH vG.out).2.1) A13.out) ?_; intro w16 hb; replace vC := rb vC hb; replace vF := rb vF hb; replace vG := rb vG hb; replace nP := kb nP hb; replace HB := bz HB hb; clear hb)
    go_meet
    case rel => exact ⟨_, _, rs, H', ⟨Jq⟩, ⟨ur vC.out⟩, ⟨ur vF.out⟩, ⟨ur (Kd.bn vG.out (fun _ hk => ⟨hk.1.1, ⟨hk.1.2, hk.2⟩⟩))⟩, ⟨ub nP.out⟩, ⟨bb⟩⟩
   ·
    (first | rw [qC] | (simp only [dP, fG]; rw [qC]) | skip)
    have H' := ak H; clear H
    have z17 := jW nP.out
    go_wp2_with (refine gB Tryz.func33 (lK.calls (cu ((Kd.aH vC.out).2.2)) ((Kd.aH vC.out).2.1) (cu ((Kd.aH vF.out).2.2)) ((Kd.aH vF.out).2.1) (cu ((Kd.aH vG.out).2.2)) ((Kd.aH vG.out).2.1) A13.out) ?_; intro w18 hb; replace vC := rb vC hb; replace vF := rb vF hb; replace vG := rb vG hb; replace nP := kb nP hb; replace HB := bz HB hb; clear hb)
    go_meet
    case rel => exact ⟨_, _, rs, H', ⟨Jq⟩, ⟨ur vC.out⟩, ⟨ur vF.out⟩, ⟨ur (Kd.bn vG.out (fun _ hk => ⟨hk.1.1, ⟨hk.1.2, hk.2⟩⟩))⟩, ⟨ub nP.out⟩, ⟨bb⟩⟩
  case rest =>
   clear HC5
   try clear c2
   try clear nT
   try clear uF
   obtain ⟨kq, afB, rfl, HA, HJ4, oM, oN, jF, nP, HB⟩ := hcut
   cases kq with
   | zero => exact zz HA.out
   | succ kj4 =>
    obtain ⟨H⟩ := HA
    simp only [dW.j0] at H
    replace H := sb H
    rcases H with ⟨rfl, H⟩ | ⟨rfl, H⟩
    ·
     replace H := bd H; obtain ⟨alC, A20, H⟩ := H
     obtain rfl := s1 H
     have z21 := jW nP.out
     go_wp2_with (refine gB Tryz.func33 (lK.calls (cu ((Kd.aH oM.out).2.2)) ((Kd.aH oM.out).2.1) (cu ((Kd.aH oN.out).2.2)) ((Kd.aH oN.out).2.1) (cu ((Kd.aH jF.out).2.2)) ((Kd.aH jF.out).2.1) A20.out) ?_; intro X_ hb; replace oM := rb oM hb; replace oN := rb oN hb; replace jF := rb jF hb; replace nP := kb nP hb; replace HB := bz HB hb; clear hb)
     go_ret
     exact ⟨er, bb⟩
    ·
     have H' := ak H; clear H
     go_wp2
     go_loopg [5, 6] kj4 (fun kq v5 v6 w' => ∃ (rH : Int) (qL : Int), v5 = .int .i64 rH ∧ v6 = .int .i64 qL ∧ ah (dW.l0 kq Qz rH qL AU AV um = some r) ∧ ah (kq ≤ kj4) ∧ ah (Kd.R qj 69 w' w.heap.size (fun _ => True) (.slice RH AU.length O9) AU) ∧ ah (Kd.R Kd.string 9 w' w.heap.size (fun _ => True) (.slice OE AV.length MO) AV) ∧ ah (Kd.R k28 28 w' w.heap.size (fun k_ => some k_ ≠ ((.slice RH AU.length O9) : Value).ownBlock ∧ some k_ ≠ ((.slice OE AV.length MO) : Value).ownBlock ∧ k_ ≠ xW) (.slice AA um.length y9) um) ∧ ah (w'.heap[xW]? = some (.cells #[(.slice RH AU.length O9), (.slice OE AV.length MO), (.slice AA um.length y9)] 28 (0, 0))) ∧ ah (Below w.heap.size w w'))
     case atStart => exact ⟨_, _, rs, rs, H', ⟨Nat.le_refl _⟩, ⟨ur oM.out⟩, ⟨ur oN.out⟩, ⟨ur jF.out⟩, ⟨ub nP.out⟩, ⟨bb⟩⟩
     case round =>
      clear H'
      try clear c2
      try clear nT
      try clear uF
      obtain ⟨rH, qL, rfl, rfl, HA, Zw, oM, oN, jF, nP, HB⟩ := hrel
      cases gk with
      | zero => exact zz HA.out
      | succ k2 =>
       obtain ⟨H⟩ := HA
       simp only [dW.l0] at H
       replace H := sd H
       rcases H with ⟨zh, H⟩ | ⟨zh, H⟩
       ·
        replace H := oL H; obtain ⟨NS, H⟩ := H; replace H := bd H; obtain ⟨alD, Ya, H⟩ := H; replace H := sb H
        rcases H with ⟨rfl, H⟩ | ⟨rfl, H⟩
        ·
         replace H := bd H; obtain ⟨alE, A27, H⟩ := H
         have H' := ak H; clear H
         have aKa := jW nP.out
         have KF := zi qL
         have KG := zj qL um.length
         obtain ⟨afC, aiv, aiw, aix, aiy, aiz, aiA, afD, QA, QB, QC, FP, FQ, FT, FU, FV, FW⟩ := yB (Kd.aH jF.out).2.2 qL KF KG
         cases afD
         obtain ⟨aor, Vf, Vg, Ag⟩ := Kd.afE jF.out z28 qL KF (by first | exact KG | exact of_decide_eq_true (by assumption) | (have e_ := (Kd.aH jF.out).1; omega))
         obtain ⟨afF, afG, afH, rfl, AX, AY, AZ⟩ := LQ Vg
         have vH := Ag 0 _ rfl
         rw [Nat.add_zero] at vH
         replace vH := Option.some.inj (vH.symm.trans QA)
         rw [vH] at AX
         have A_ := ak (show Kd.R qj 69 _ _ _ _ ((bg um qL).f0) from AX)
         clear vH AX
         have vI := Ag 1 _ rfl
         rw [vS _ _ 1 (by omega)] at vI
         replace vI := Option.some.inj (vI.symm.trans QB)
         rw [vI] at AY
         have Ba := ak (show Kd.R Kd.string 9 _ _ _ _ ((bg um qL).f1) from AY)
         clear vI AY
         have vJ := Ag 2 _ rfl
         rw [vS _ _ 2 (by omega)] at vJ
         replace vJ := Option.some.inj (vJ.symm.trans QC)
         rw [vJ] at AZ
         have Bc := ak (show Kd.R k28 28 _ _ _ _ ((bg um qL).f2) from AZ)
         clear vJ AZ Ag Vf
         have rX := ak FQ
         have QD := ak FP
         clear FQ FP
         have rY := ak FU
         have QE := ak FT
         clear FU FT
         have rZ := ak FW
         have QF := ak FV
         clear FW FV
         replace KF := eq_true KF
         replace KG := eq_true KG
         go_wp2_with (first | (refine gB Tryz.func26 (lF.calls (cu (by repeat (first | (with_reducible exact rX.out) | (with_reducible refine Kd.jf ?_ _) | (with_reducible refine Kd.jg ?_ _) | (with_reducible refine Kd.kH ?_) | exact rX.out))) QD.out (cu (by repeat (first | (with_reducible exact rY.out) | (with_reducible refine Kd.jf ?_ _) | (with_reducible refine Kd.jg ?_ _) | (with_reducible refine Kd.kH ?_) | exact rY.out))) QE.out (cu (by repeat (first | (with_reducible exact rZ.out) | (with_reducible refine Kd.jf ?_ _) | (with_reducible refine Kd.jg ?_ _) | (with_reducible refine Kd.kH ?_) | exact rZ.out))) QF.out ?uS Ya.out) ?_; (case uS => first | exact HG.out | exact MaxOk.below HG.out bb | (repeat (first | exact HG.out | apply MaxOk.drewN | apply MaxOk.drew))); intro w29 hb; replace oM := rb oM hb; replace oN := rb oN hb; replace jF := rb jF hb; replace A_ := rb A_ hb; replace Ba := rb Ba hb; replace Bc := rb Bc hb; replace nP := kb nP hb; replace rX := ak (Kd.aN (by repeat (first | (with_reducible exact rX.out) | (with_reducible refine Kd.jf ?_ _) | (with_reducible refine Kd.jg ?_ _) | (with_reducible refine Kd.kH ?_) | exact rX.out)) hb); replace rY := ak (Kd.aN (by repeat (first | (with_reducible exact rY.out) | (with_reducible refine Kd.jf ?_ _) | (with_reducible refine Kd.jg ?_ _) | (with_reducible refine Kd.kH ?_) | exact rY.out)) hb); replace rZ := ak (Kd.aN (by repeat (first | (with_reducible exact rZ.out) | (with_reducible refine Kd.jf ?_ _) | (with_reducible refine Kd.jg ?_ _) | (with_reducible refine Kd.kH ?_) | exact rZ.out)) hb); replace HB := bz HB hb; clear hb; have z30 := jW nP.out; have abv : 0 ≤ (qL : Int) := of_decide_eq_true (by assumption); have abw : qL < (um.length : Int) := of_decide_eq_true (by assumption); obtain ⟨aos, axZ, ax0, ax1, ax2, ax3, ax4, au9, afI, afJ, afK, WY, WZ, W9, Xa, Xb, Xc⟩ := yB (Kd.aH jF.out).2.2 qL abv abw; obtain rfl : afC = aos := (by injection au9); obtain ⟨aA5, aiB, aiC, Pn⟩ := Kd.afE jF.out z28 qL abv (by first | exact abw | exact of_decide_eq_true (by assumption) | (have e_ := (Kd.aH jF.out).1; omega)); obtain ⟨au_, ava, avb, rfl, QG, QH, QI⟩ := LQ aiC; have FX := Pn 0 _ rfl; rw [Nat.add_zero] at FX; replace FX := Option.some.inj (FX.symm.trans afI); rw [FX] at QG; have Xd := ak (show Kd.R qj 69 _ _ _ _ ((bg um qL).f0) from QG); clear FX QG; have FY := Pn 1 _ rfl; rw [vS _ _ 1 (by omega)] at FY; replace FY := Option.some.inj (FY.symm.trans afJ); rw [FY] at QH; have Xe := ak (show Kd.R Kd.string 9 _ _ _ _ ((bg um qL).f1) from QH); clear FY QH; have FZ := Pn 2 _ rfl; rw [vS _ _ 2 (by omega)] at FZ; replace FZ := Option.some.inj (FZ.symm.trans afK); rw [FZ] at QI; have Xf := ak (show Kd.R k28 28 _ _ _ _ ((bg um qL).f2) from QI); clear FZ QI; clear Pn aiB; have F5 := ak WZ; have afL := ak WY; clear WZ WY; have F6 := ak Xa; have afM := ak W9; clear Xa W9; have F7 := ak Xc; have afN := ak Xb; clear Xc Xb; replace abv := eq_true abv; replace abw := eq_true abw) | (refine gB Tryz.func34 (nG.calls (cu (by repeat (first | (with_reducible exact F5.out) | (with_reducible refine Kd.jf ?_ _) | (with_reducible refine Kd.jg ?_ _) | (with_reducible refine Kd.kH ?_) | exact F5.out))) afL.out (cu (by repeat (first | (with_reducible exact F6.out) | (with_reducible refine Kd.jf ?_ _) | (with_reducible refine Kd.jg ?_ _) | (with_reducible refine Kd.kH ?_) | exact F6.out))) afM.out (cu (by repeat (first | (with_reducible exact F7.out) | (with_reducible refine Kd.jf ?_ _) | (with_reducible refine Kd.jg ?_ _) | (with_reducible refine Kd.kH ?_) | exact F7.out))) afN.out ?uS A27.out) ?_; (case uS => first | exact HG.out | exact MaxOk.below HG.out bb | (repeat (first | exact HG.out | apply MaxOk.drewN | apply MaxOk.drew))); intro w31 hb; replace oM := rb oM hb; replace oN := rb oN hb; replace jF := rb jF hb; replace A_ := rb A_ hb; replace Ba := rb Ba hb; replace Bc := rb Bc hb; replace Xd := rb Xd hb; replace Xe := rb Xe hb; replace Xf := rb Xf hb; replace nP := kb nP hb; replace rX := ak (Kd.aN (by repeat (first | (with_reducible exact rX.out) | (with_reducible refine Kd.jf ?_ _) | (with_reducible refine Kd.jg ?_ _) | (with_reducible refine Kd.kH ?_) | exact rX.out)) hb); replace rY := ak (Kd.aN (by repeat (first | (with_reducible exact rY.out) | (with_reducible refine Kd.jf ?_ _) | (with_reducible refine Kd.jg ?_ _) | (with_reducible refine Kd.kH ?_) | exact rY.out)) hb); replace rZ := ak (Kd.aN (by repeat (first | (with_reducible exact rZ.out) | (with_reducible refine Kd.jf ?_ _) | (with_reducible refine Kd.jg ?_ _) | (with_reducible refine Kd.kH ?_) | exact rZ.out)) hb); replace F5 := ak (Kd.aN (by repeat (first | (with_reducible exact F5.out) | (with_reducible refine Kd.jf ?_ _) | (with_reducible refine Kd.jg ?_ _) | (with_reducible refine Kd.kH ?_) | exact F5.out)) hb); replace F6 := ak (Kd.aN (by repeat (first | (with_reducible exact F6.out) | (with_reducible refine Kd.jf ?_ _) | (with_reducible refine Kd.jg ?_ _) | (with_reducible refine Kd.kH ?_) | exact F6.out)) hb); replace F7 := ak (Kd.aN (by repeat (first | (with_reducible exact F7.out) | (with_reducible refine Kd.jf ?_ _) | (with_reducible refine Kd.jg ?_ _) | (with_reducible refine Kd.kH ?_) | exact F7.out)) hb); replace HB := bz HB hb; clear hb))
         go_roundg k2
         case measure => exact kl
         case rel => exact ⟨_, _, rs, rs, H', ⟨kl⟩, ⟨ur oM.out⟩, ⟨ur oN.out⟩, ⟨ur jF.out⟩, ⟨ub nP.out⟩, ⟨bb⟩⟩
        ·
         obtain rfl := s1 H
         have z32 := jW nP.out
         have KF := zi qL
         have KG := zj qL um.length
         obtain ⟨afC, aiv, aiw, aix, aiy, aiz, aiA, afD, QA, QB, QC, FP, FQ, FT, FU, FV, FW⟩ := yB (Kd.aH jF.out).2.2 qL KF KG
         cases afD
         obtain ⟨aor, Vf, Vg, Ag⟩ := Kd.afE jF.out z28 qL KF (by first | exact KG | exact of_decide_eq_true (by assumption) | (have e_ := (Kd.aH jF.out).1; omega))
         obtain ⟨afF, afG, afH, rfl, AX, AY, AZ⟩ := LQ Vg
         have vH := Ag 0 _ rfl
         rw [Nat.add_zero] at vH
         replace vH := Option.some.inj (vH.symm.trans QA)
         rw [vH] at AX
         have A_ := ak (show Kd.R qj 69 _ _ _ _ ((bg um qL).f0) from AX)
         clear vH AX
         have vI := Ag 1 _ rfl
         rw [vS _ _ 1 (by omega)] at vI
         replace vI := Option.some.inj (vI.symm.trans QB)
         rw [vI] at AY
         have Ba := ak (show Kd.R Kd.string 9 _ _ _ _ ((bg um qL).f1) from AY)
         clear vI AY
         have vJ := Ag 2 _ rfl
         rw [vS _ _ 2 (by omega)] at vJ
         replace vJ := Option.some.inj (vJ.symm.trans QC)
         rw [vJ] at AZ
         have Bc := ak (show Kd.R k28 28 _ _ _ _ ((bg um qL).f2) from AZ)
         clear vJ AZ Ag Vf
         have rX := ak FQ
         have QD := ak FP
         clear FQ FP
         have rY := ak FU
         have QE := ak FT
         clear FU FT
         have rZ := ak FW
         have QF := ak FV
         clear FW FV
         replace KF := eq_true KF
         replace KG := eq_true KG
         go_wp2_with (refine gB Tryz.func26 (lF.calls (cu (by repeat (first | (with_reducible exact rX.out) | (with_reducible refine Kd.jf ?_ _) | (with_reducible refine Kd.jg ?_ _) | (with_reducible refine Kd.kH ?_) | exact rX.out))) QD.out (cu (by repeat (first | (with_reducible exact rY.out) | (with_reducible refine Kd.jf ?_ _) | (with_reducible refine Kd.jg ?_ _) | (with_reducible refine Kd.kH ?_) | exact rY.out))) QE.out (cu (by repeat (first | (with_reducible exact rZ.out) | (with_reducible refine Kd.jf ?_ _) | (with_reducible refine Kd.jg ?_ _) | (with_reducible refine Kd.kH ?_) | exact rZ.out))) QF.out ?uS Ya.out) ?_; (case uS => first | exact HG.out | exact MaxOk.below HG.out bb | (repeat (first | exact HG.out | apply MaxOk.drewN | apply MaxOk.drew))); intro w33 hb; replace oM := rb oM hb; replace oN := rb oN hb; replace jF := rb jF hb; replace A_ := rb A_ hb; replace Ba := rb Ba hb; replace Bc := rb Bc hb; replace nP := kb nP hb; replace rX := ak (Kd.aN (by repeat (first | (with_reducible exact rX.out) | (with_reducible refine Kd.jf ?_ _) | (with_reducible refine Kd.jg ?_ _) | (with_reducible refine Kd.kH ?_) | exact rX.out)) hb); replace rY := ak (Kd.aN (by repeat (first | (with_reducible exact rY.out) | (with_reducible refine Kd.jf ?_ _) | (with_reducible refine Kd.jg ?_ _) | (with_reducible refine Kd.kH ?_) | exact rY.out)) hb); replace rZ := ak (Kd.aN (by repeat (first | (with_reducible exact rZ.out) | (with_reducible refine Kd.jf ?_ _) | (with_reducible refine Kd.jg ?_ _) | (with_reducible refine Kd.kH ?_) | exact rZ.out)) hb); replace HB := bz HB hb; clear hb)
         go_ret
         exact ⟨er, bb⟩
       ·
        replace H := sp H
        rcases H with ⟨c34, H⟩ | ⟨c34, H⟩
        ·
         have PX := beq_iff_eq.mpr c34
         have PY := bne_eq_false_iff_eq.mpr c34
         clear c34
         replace H := sq H
         rcases H with ⟨Wh, ZA, H⟩ | ⟨c35, Wh, ZA, H⟩
         ·
          obtain rfl := s1 H
          have z36 := jW nP.out
          go_wp2
          go_ret
          exact ⟨er, bb⟩
         ·
          obtain rfl := s1 H
          have z37 := jW nP.out
          go_wp2
          go_ret
          exact ⟨er, bb⟩
        ·
         have PX := beq_eq_false_iff_ne.mpr c34
         have PY := bne_iff_ne.mpr c34
         have as7 : ¬ (um = []) := fun h_ => c34 (by rw [h_]; rfl)
         obtain rfl := s1 H
         have z38 := jW nP.out
         go_wp2
         go_ret
         exact ⟨er, bb⟩
/-- THE ONE PURE STATEMENT of laws_FnKidValid: yours. -/
def dW.Pure : Prop := ∀ (l0 : List Int), l0.length ≤ maxLen → l0.length * 1 ≤ 140737488351232 → (∀ x ∈ l0, (Lit.int .u8 x).wf = true) → ∃ k, dW.f k l0 = some true
theorem dW.walk (P : dW.Pure) (a0 : Option Addr) (len0 cap0 : Nat) (z0 : List Int) (w : World) (w0 : (a0 = none ∧ len0 = 0 ∧ cap0 = 0 ∧ z0 = []) ∨ ∃ x, a0 = some x ∧ len0 ≤ cap0 ∧ cap0 ≤ maxLen ∧ z0.length = cap0 ∧ (∀ i, i < z0.length → w.cell? (x.add i) = some (.int .u8 (z0.getD i 0))) ∧ ∀ n ∈ z0, (Lit.int .u8 n).wf = true) (y0 : len0 * 1 ≤ 140737488351232) (BX : MaxOk w) :
  Calls Tryz.prog 11 #[.slice a0 len0 cap0] w fun e w' => e = .returned (.bool true) ∧ Below w.heap.size w w' := by
 obtain ⟨l0, rfl, hr0, hm0, hw0, hc0⟩ := lJ.aot w0
 obtain ⟨k, h⟩ := P l0 hm0 y0 hw0
 refine (dW.calls (Kd.IQ (d := (0 : Int)) (h1 := fun _ => rfl) hr0) hc0 BX h).mono ?_
 rintro e w' ⟨rfl, hd⟩
 exact ⟨rfl, hd⟩
end Go.Proofs.YtncdadcmghglkaaGreatDoor.PFnKidValid
