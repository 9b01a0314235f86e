/- Printed walks; conditions: those in each statement. -/
import Derived.Test.YtncdadcmghglkaaGreatDoorVFnKidValidQt
import Derived.Test.YtncdadcmghglkaaGreatDoorVFnKidValidYt
import Derived.Test.YtncdadcmghglkaaGreatDoorPFnKidValidx0
import Derived.Test.YtncdadcmghglkaaGreatDoorPFnKidValidx11
import Derived.Test.YtncdadcmghglkaaGreatDoorPFnKidValidx18
import Derived.Test.YtncdadcmghglkaaGreatDoorPFnKidValidx20
import Derived.Test.YtncdadcmghglkaaGreatDoorPFnKidValidx21
import Derived.Test.YtncdadcmghglkaaGreatDoorPFnKidValidx24
-- short
-- dense
-- sq
-- sq2
namespace Go.Proofs.YtncdadcmghglkaaGreatDoor.PFnKidValid
open Go.RowKit Go.Proofs.YtncdadcmghglkaaGreatDoor.X Go.Proofs.YtncdadcmghglkaaGreatDoorW.bI Go.Proofs.YtncdadcmghglkaaGreatDoorW.gq Go.Proofs.YtncdadcmghglkaaGreatDoorW.iJ
attribute [local go_sem] kJ kK mD mF jv jw kL kM   -- for this text's walks alone
set_option linter.unusedVariables false
set_option maxHeartbeats 8000000
set_option maxRecDepth 100000
set_option linter.unusedSimpArgs false
def fV.f (k : Nat) (a0 : ByteArray) (a1 : ByteArray) : Option ((List (gU)) × List ByteArray × (List (mY)) × Bool) := (bK.f k a0).bind fun aer => ((lQ.f k a1).bind fun WJ => ((jJ.f k a1 WJ.1).bind fun aes => (if aer.2 = true then (if WJ.2 = true then (if aes.2 = true then ((jd.f k (⟨#[83, 117, 98, 106, 101, 99, 116]⟩ : ByteArray) aer.1).bind fun atw => (if atw = true then ((iH.f k aes.1).bind fun atx => (if atx = true then ((some (([(⟨#[55, 98, 105, 116]⟩ : ByteArray), (⟨#[113, 117, 111, 116, 101, 100, 45, 112, 114, 105, 110, 116, 97, 98, 108, 101]⟩ : ByteArray), (⟨#[98, 97, 115, 101, 54, 52]⟩ : ByteArray)] : List ByteArray) : List ByteArray)).bind fun Ae => (if 0 ≤ WJ.1 then (if WJ.1 < (Ae.length : Int) then (some ((([(⟨(⟨#[83, 117, 98, 106, 101, 99, 116]⟩ : ByteArray), aer.1⟩ : gU), (⟨(⟨#[67, 111, 110, 116, 101, 110, 116, 45, 84, 121, 112, 101]⟩ : ByteArray), (⟨#[116, 101, 120, 116, 47, 112, 108, 97, 105, 110, 59, 32, 99, 104, 97, 114, 115, 101, 116, 61, 117, 116, 102, 45, 56]⟩ : ByteArray)⟩ : gU), (⟨(⟨#[67, 111, 110, 116, 101, 110, 116, 45, 84, 114, 97, 110, 115, 102, 101, 114, 45, 69, 110, 99, 111, 100, 105, 110, 103]⟩ : ByteArray), o9 ByteArray.empty Ae WJ.1⟩ : gU)] : List (gU))), aes.1, ([] : List (mY)), true)) else (none)) else (none))) else (some (([] : List (gU)), ([] : List ByteArray), ([] : List (mY)), false)))) else (some (([] : List (gU)), ([] : List ByteArray), ([] : List (mY)), false)))) else (some (([] : List (gU)), ([] : List ByteArray), ([] : List (mY)), false))) else (some (([] : List (gU)), ([] : List ByteArray), ([] : List (mY)), false))) else (some (([] : List (gU)), ([] : List ByteArray), ([] : List (mY)), false)))))
def fV.T8 : Bool × List (List Nat × List Nat) := (true, [([], []), ([], []), ([], []), ([], []), ([2, 3], [2, 3]), ([4], [4]), ([5], [5]), ([0, 1, 6], [0, 1, 6]), ([7], [7]), ([], []), ([9, 8, 0, 1, 2, 3, 4, 5, 6, 7, 8, 9], [8, 9])])
def fV.B8 : List Nat := [0, 0, 0, 0, 12, 28, 60, 127, 255, 0, 1023]
theorem fV.acp : sQ .any (opsOf Tryz.f167 8) = fV.T8 := by kernel_rfl
theorem fV.SK : nU fV.T8.2 fV.B8 = true := by kernel_rfl
theorem fV.calls {k : Nat} {a0 a1 : ByteArray} {r1 : List (gU)} {r2 : List ByteArray} {r3 : List (mY)} {r4 : Bool} {w : World} (h : fV.f k a0 a1 = some (r1, r2, r3, r4)) :
  Calls Tryz.prog 167 #[.string a0, .string a1] w fun e w' => ∃ ql DT E8 : Value, e = .returned (.tuple #[.agg #[ql, DT, E8], .bool r4]) ∧ Kd.R qj 69 w' w.heap.size (fun _ => True) ql r1 ∧ Kd.R Kd.string 9 w' w.heap.size (fun _ => True) DT r2 ∧ Kd.R k28 28 w' w.heap.size (fun k_ => some k_ ≠ (ql : Value).ownBlock ∧ some k_ ≠ (DT : Value).ownBlock) E8 r3 ∧ Below w.heap.size w w' := by
 have Dj := Tryz.underlying28
 have DU := Tryz.underlying69
 have HB := ak (Below.refl w.heap.size w)
 unfold fV.f at h; have H := h
 clear h
 replace H := bd H
 obtain ⟨⟨wJ, aHl⟩, A3, H⟩ := H
 (try dsimp only at H)
 replace H := bd H
 obtain ⟨⟨Dv, aHm⟩, A4, H⟩ := H
 (try dsimp only at H)
 replace H := bd H
 obtain ⟨⟨J_, aHn⟩, A5, H⟩ := H
 (try dsimp only at H)
 replace H := sb H
 rcases H with ⟨rfl, H⟩ | ⟨rfl, H⟩
 ·
  replace H := sb H
  rcases H with ⟨rfl, H⟩ | ⟨rfl, H⟩
  ·
   replace H := sb H
   rcases H with ⟨rfl, H⟩ | ⟨rfl, H⟩
   ·
    replace H := bd H; obtain ⟨atw, A9, H⟩ := H; replace H := sb H
    rcases H with ⟨rfl, H⟩ | ⟨rfl, H⟩
    ·
     replace H := bd H; obtain ⟨atx, Zn, H⟩ := H; replace H := sb H
     rcases H with ⟨rfl, H⟩ | ⟨rfl, H⟩
     ·
      replace H := ny H
      obtain ⟨Ae, aty, H⟩ := H
      replace H := oL H; obtain ⟨wo, H⟩ := H; replace H := oL H; obtain ⟨qC, H⟩ := H
      obtain ⟨OD, WL⟩ := nm ([(⟨(⟨#[83, 117, 98, 106, 101, 99, 116]⟩ : ByteArray), wJ⟩ : gU), (⟨(⟨#[67, 111, 110, 116, 101, 110, 116, 45, 84, 121, 112, 101]⟩ : ByteArray), (⟨#[116, 101, 120, 116, 47, 112, 108, 97, 105, 110, 59, 32, 99, 104, 97, 114, 115, 101, 116, 61, 117, 116, 102, 45, 56]⟩ : ByteArray)⟩ : gU), (⟨(⟨#[67, 111, 110, 116, 101, 110, 116, 45, 84, 114, 97, 110, 115, 102, 101, 114, 45, 69, 110, 99, 111, 100, 105, 110, 103]⟩ : ByteArray), o9 ByteArray.empty Ae Dv⟩ : gU)] : List (gU))
      rw [← WL.out] at H
      obtain ⟨rfl, rfl, rfl, rfl⟩ := s4 H
      go_enter Tryz.func167, Tryz.ntmps167
      try go_wp2_with (first | (refine bX HB 4 #[.slice none 0 0, .slice none 0 0, .slice none 0 0] 28 ?_; intro wz w15 dX WM hb; replace HB := bs HB hb; clear hb) | (refine gB Tryz.func194 (bK.calls A3.out) ?_; intro w16 hb; replace dX := kb dX hb; replace HB := bz HB hb; clear hb) | (refine gB Tryz.func195 (lQ.calls A4.out) ?_; intro w17 hb; replace dX := kb dX hb; replace HB := bz HB hb; clear hb) | (refine gV Tryz.func196 (jJ.calls A5.out) ?_; rintro aeu w18 ⟨ho0, hb⟩; have kP := ak (Kd.aC ho0 (aj bb)); replace dX := kb dX hb; replace HB := bz HB hb; clear hb; (try clear ho0)) | (refine bY HB 12 #[.string (⟨#[]⟩ : ByteArray), .string (⟨#[]⟩ : ByteArray)] 69 ?_; intro nX ZN jS WO hg hb; have kC := BL dX hg; have sW := BM dX hg; replace kP := rb kP hb; replace dX := kb dX hb; replace HB := bz HB hb; clear hb hg; have atz := sW.out; have atA := kC.out; have z21 := zQ jS.out) | (go_at_call 158; refine mB (jd.calls A9.out) ?_; intro X_ hb; replace kP := rg kP hb; replace dX := kp dX #[.slice none 0 0, .slice none 0 0, .slice none 0 0] hb; replace jS := kp jS #[.string (⟨#[83, 117, 98, 106, 101, 99, 116]⟩ : ByteArray), .string wJ] hb; replace HB := bz HB hb; clear hb; obtain ⟨P8, Oy, am1⟩ := Kd.aV kP.out; subst am1) | (go_at_call 114; refine mA (iH.calls (cu ((Kd.aH kP.out).2.2)) ((Kd.aH kP.out).2.1) Zn.out) ?_; intro nd; (try (rw [Qn X_]; generalize hq_ : World.drewN X_ _ = X_; have y5 : ah (Kd.R Kd.string 9 X_ w.heap.size (fun _ => True) (.slice P8 J_.length Oy) J_) := ⟨by rw [← hq_]; exact (ur kP.out)⟩; have y7 : ah (X_.heap[wz]? = some (.cells #[.slice none 0 0, .slice none 0 0, .slice none 0 0] 28 (0, 0))) := ⟨by rw [← hq_]; exact (ub dX.out)⟩; have zT : ah (X_.heap[nX]? = some (.cells #[.string (⟨#[83, 117, 98, 106, 101, 99, 116]⟩ : ByteArray), .string wJ] 69 (0, 0))) := ⟨by rw [← hq_]; exact (ub jS.out)⟩; have Dq : ah (Below w.heap.size w X_) := ⟨by rw [← hq_]; exact bb⟩; clear kP dX jS HB hq_; have kP := y5; have dX := y7; have jS := zT; have HB := Dq; clear y5 y7 zT Dq))) | (refine RF 54 Kd.string 9 [.string (⟨#[55, 98, 105, 116]⟩ : ByteArray), .string (⟨#[113, 117, 111, 116, 101, 100, 45, 112, 114, 105, 110, 116, 97, 98, 108, 101]⟩ : ByteArray), .string (⟨#[98, 97, 115, 101, 54, 52]⟩ : ByteArray)] aty (dD.one (show Kd.M Kd.string _ _ _ (⟨#[55, 98, 105, 116]⟩ : ByteArray) [.string (⟨#[55, 98, 105, 116]⟩ : ByteArray)] from rfl) (dD.one (show Kd.M Kd.string _ _ _ (⟨#[113, 117, 111, 116, 101, 100, 45, 112, 114, 105, 110, 116, 97, 98, 108, 101]⟩ : ByteArray) [.string (⟨#[113, 117, 111, 116, 101, 100, 45, 112, 114, 105, 110, 116, 97, 98, 108, 101]⟩ : ByteArray)] from rfl) (dD.one (show Kd.M Kd.string _ _ _ (⟨#[98, 97, 115, 101, 54, 52]⟩ : ByteArray) [.string (⟨#[98, 97, 115, 101, 54, 52]⟩ : ByteArray)] from rfl) (dD.none _ _)))) ?_; intro aHo w24 Qo hb; have rP := ak (Kd.aC (Kd.gK Qo (Kd.kU (ur kP.out))) (aj bb)); replace kP := ak (Kd.fP (ur kP.out) (Kd.fO Qo) hb); replace dX := kb dX hb; replace jS := ak (lV (g := nX) (o := .cells #[.string (⟨#[83, 117, 98, 106, 101, 99, 116]⟩ : ByteArray), .string wJ] 69 (0, 0)) (ub jS.out) hb); replace HB := bz HB hb; clear hb Qo))
      replace kP := ak (Kd.l9 kP.out)
      replace rP := ak (Kd.l9 rP.out)
      replace dX := ak (bC dX.out)
      replace jS := ak (bC jS.out)
      replace HB := ak (iF HB.out)
      obtain ⟨aHp, ah0, atC⟩ := Kd.aV rP.out
      (first | subst atC | (injection atC with qV xB qW; have xC := qV.symm; have xE := qW.symm; clear qV xB qW; subst xC; subst xE))
      have an6 := zi Dv
      have an7 := zj Dv Ae.length
      obtain ⟨Qp, azM, aaV⟩ := Kd.jZ (Kd.aH rP.out).2.2 Dv an6 an7
      cases azM
      replace an6 := eq_true an6
      replace an7 := eq_true an7
      refine Df (n := 11) (S := fun w' => w'.cell? ⟨nX, 0, none⟩ = some (.string (⟨#[83, 117, 98, 106, 101, 99, 116]⟩ : ByteArray)) ∧ w'.cell? ⟨nX, 1, none⟩ = some (.string wJ) ∧ w'.cell? (Qp.add (Dv).toNat) = some (.string (o9 ByteArray.empty Ae Dv))) (ds := []) #[false, false, false, false, false, false, false, false, false, false, false] (by kernel_rfl) rfl rfl ⟨(aA jS.out 0).trans rfl, (aA jS.out 1).trans rfl, aaV⟩ (fun hHeld => ?_); refine uo fV.acp fV.SK (fun ug Yd => ?_)
      generalize w24.drew = w26 at kP rP dX jS HB aaV hHeld ⊢
      refine pl 1 ?_
      refine pl 2 ?_
      refine pl 3 ?_
      refine pl 4 ?_
      refine tk 0 ?_
      refine tk 5 ?_
      refine pl 6 ?_
      refine aev (σ := Value × Nat) 1 #[true, true, true, true, true, true, true, true, true, true, false] (fun s_ => [(62, s_.1), (14, .pointer (some ⟨s_.2, 0, none⟩)), (63, .agg #[s_.1, .slice none 0 0, .slice none 0 0])]) (fun s_ w' => (w'.cell? ⟨nX, 0, none⟩ = some (.string (⟨#[83, 117, 98, 106, 101, 99, 116]⟩ : ByteArray)) ∧ w'.cell? ⟨nX, 1, none⟩ = some (.string wJ) ∧ w'.cell? (Qp.add (Dv).toNat) = some (.string (o9 ByteArray.empty Ae Dv))) ∧ (Kd.R Kd.string 9 w' w.heap.size (fun k_ => some k_ ≠ (.slice (some Qp) Ae.length ah0 : Value).ownBlock) (.slice P8 J_.length Oy) J_) ∧ (Kd.R Kd.string 9 w' w.heap.size (fun k_ => some k_ ≠ (.slice P8 J_.length Oy : Value).ownBlock) (.slice (some Qp) Ae.length ah0) Ae) ∧ (Kd.R qj 69 w' w.heap.size (fun k_ => k_ ≠ nX) s_.1 OD) ∧ (w'.heap[wz]? = some (.cells #[.slice none 0 0, .slice none 0 0, .slice none 0 0] 28 (0, 0))) ∧ (w'.heap[nX]? = some (.cells #[.string (⟨#[83, 117, 98, 106, 101, 99, 116]⟩ : ByteArray), .string wJ] 69 (0, 0))) ∧ (w'.heap[s_.2]? = some (.cells #[.slice none 0 0, .slice none 0 0, .slice none 0 0] 28 (0, 0))) ∧ (w.heap.size ≤ s_.2) ∧ (w.heap.size ≤ s_.2) ∧ (wz ≠ s_.2) ∧ (s_.2 ≠ wz) ∧ (nX ≠ s_.2) ∧ (s_.2 ≠ nX) ∧ (Below w.heap.size w w')) ?_ ?_
      rotate_left
      ·
       intro SQ
       refine ah1 (i := 7) (j := 9) (Ni := some 62) (Nj := some 14) #[true, true, true, true, true, true, true, true, false, false, false] #[true, true, true, true, true, true, true, false, false, true, false] rfl rfl rfl rfl (UY ug.out (by kernel_rfl)) (by decide) (by decide) (fun K hK => ?_) (fun K hK => ?_)
       ·
        skip
        refine Kd.qM qj _ 69 ?hg (N := 62) ?hd (xs := ([(⟨(⟨#[83, 117, 98, 106, 101, 99, 116]⟩ : ByteArray), wJ⟩ : gU), (⟨(⟨#[67, 111, 110, 116, 101, 110, 116, 45, 84, 121, 112, 101]⟩ : ByteArray), (⟨#[116, 101, 120, 116, 47, 112, 108, 97, 105, 110, 59, 32, 99, 104, 97, 114, 115, 101, 116, 61, 117, 116, 102, 45, 56]⟩ : ByteArray)⟩ : gU), (⟨(⟨#[67, 111, 110, 116, 101, 110, 116, 45, 84, 114, 97, 110, 115, 102, 101, 114, 45, 69, 110, 99, 111, 100, 105, 110, 103]⟩ : ByteArray), o9 ByteArray.empty Ae Dv⟩ : gU)] : List (gU))) (inner := [.string (⟨#[83, 117, 98, 106, 101, 99, 116]⟩ : ByteArray), .string wJ, .string (⟨#[67, 111, 110, 116, 101, 110, 116, 45, 84, 121, 112, 101]⟩ : ByteArray), .string (⟨#[116, 101, 120, 116, 47, 112, 108, 97, 105, 110, 59, 32, 99, 104, 97, 114, 115, 101, 116, 61, 117, 116, 102, 45, 56]⟩ : ByteArray), .string (⟨#[67, 111, 110, 116, 101, 110, 116, 45, 84, 114, 97, 110, 115, 102, 101, 114, 45, 69, 110, 99, 111, 100, 105, 110, 103]⟩ : ByteArray), .string (o9 ByteArray.empty Ae Dv)]) (ok := fun _ => True) (wE := fun _ => True) ?hr ?hp (fun _ hk => hk) trivial (Below.refl _ _) (Nat.le_refl _) (by simp) ?_; (case hd => rfl); (case hg => rfl); (case hr => first | (go_simp; done) | (go_simp; rfl)); (case hp => exact (dD.c2 (show Kd.M qj _ _ _ (⟨(⟨#[83, 117, 98, 106, 101, 99, 116]⟩ : ByteArray), wJ⟩ : gU) [.string (⟨#[83, 117, 98, 106, 101, 99, 116]⟩ : ByteArray), .string wJ] from (wM _ _ _ (⟨(⟨#[83, 117, 98, 106, 101, 99, 116]⟩ : ByteArray), wJ⟩ : gU) )) (dD.c2 (show Kd.M qj _ _ _ (⟨(⟨#[67, 111, 110, 116, 101, 110, 116, 45, 84, 121, 112, 101]⟩ : ByteArray), (⟨#[116, 101, 120, 116, 47, 112, 108, 97, 105, 110, 59, 32, 99, 104, 97, 114, 115, 101, 116, 61, 117, 116, 102, 45, 56]⟩ : ByteArray)⟩ : gU) [.string (⟨#[67, 111, 110, 116, 101, 110, 116, 45, 84, 121, 112, 101]⟩ : ByteArray), .string (⟨#[116, 101, 120, 116, 47, 112, 108, 97, 105, 110, 59, 32, 99, 104, 97, 114, 115, 101, 116, 61, 117, 116, 102, 45, 56]⟩ : ByteArray)] from (wM _ _ _ (⟨(⟨#[67, 111, 110, 116, 101, 110, 116, 45, 84, 121, 112, 101]⟩ : ByteArray), (⟨#[116, 101, 120, 116, 47, 112, 108, 97, 105, 110, 59, 32, 99, 104, 97, 114, 115, 101, 116, 61, 117, 116, 102, 45, 56]⟩ : ByteArray)⟩ : gU) )) (dD.c2 (show Kd.M qj _ _ _ (⟨(⟨#[67, 111, 110, 116, 101, 110, 116, 45, 84, 114, 97, 110, 115, 102, 101, 114, 45, 69, 110, 99, 111, 100, 105, 110, 103]⟩ : ByteArray), o9 ByteArray.empty Ae Dv⟩ : gU) [.string (⟨#[67, 111, 110, 116, 101, 110, 116, 45, 84, 114, 97, 110, 115, 102, 101, 114, 45, 69, 110, 99, 111, 100, 105, 110, 103]⟩ : ByteArray), .string (o9 ByteArray.empty Ae Dv)] from (wM _ _ _ (⟨(⟨#[67, 111, 110, 116, 101, 110, 116, 45, 84, 114, 97, 110, 115, 102, 101, 114, 45, 69, 110, 99, 111, 100, 105, 110, 103]⟩ : ByteArray), o9 ByteArray.empty Ae Dv⟩ : gU) )) (dD.none _ _)))))
        intro an8 w28 aew hb BX wH
        have Yv := (hb.cell (World.block_lt_of_cell? _ _ (hHeld.2.2))).trans (hHeld.2.2)
        clear BX wH
        (first | rw [← WL.out] at aew | (simp only [Int.reduceToNat] at aew; rw [← WL.out] at aew))
        have Kq := ak (Kd.aC (Kd.nN aew (g := nX) (o := .cells #[.string (⟨#[83, 117, 98, 106, 101, 99, 116]⟩ : ByteArray), .string wJ] 69 (0, 0)) (ub jS.out)) (aj bb))
        replace kP := rb kP hb
        replace rP := rb rP hb
        replace dX := kb dX hb
        replace jS := ak (lV (g := nX) (o := .cells #[.string (⟨#[83, 117, 98, 106, 101, 99, 116]⟩ : ByteArray), .string wJ] 69 (0, 0)) (ub jS.out) hb)
        replace HB := bz HB hb
        clear hb aew
        obtain ⟨atD, atE, ah2⟩ := Kd.aV Kq.out
        (first | subst ah2 | (injection ah2 with qV xB qW; have xC := qV.symm; have xE := qW.symm; clear qV xB qW; subst xC; subst xE))
        refine hK.out _ _ ⟨(aA jS.out 0).trans rfl, (aA jS.out 1).trans rfl, Yv⟩ (fun hHeld => ?_)
        clear hK K
        refine nrm ?_
        refine pl 8 ?_
        refine o1 9 (fun K hK => ?_)
        refine Qq ?hg (N := 14) ?hd (cs := #[.slice none 0 0, .slice none 0 0, .slice none 0 0]) (t := 28) ?hr ?_; (case hd => rfl); (case hg => rfl); (case hr => first | (go_simp; done) | (go_simp; rfl))
        intro qN hg w31 hbox hb
        have Yv := (hb.cell (World.block_lt_of_cell? _ _ (hHeld.2.2))).trans (hHeld.2.2)
        have tK := ak (hbox)
        have aaW := ak ((by rw [hg]; exact (aj bb) : w.heap.size ≤ qN))
        have aaX := ak ((by rw [hg]; exact (aj bb) : w.heap.size ≤ qN))
        have qY := BL dX hg
        have wX := BM dX hg
        have pK := ak ((by rw [hg]; exact Nat.ne_of_lt (xQ (g := nX) (o := .cells #[.string (⟨#[83, 117, 98, 106, 101, 99, 116]⟩ : ByteArray), .string wJ] 69 (0, 0)) (ub jS.out)) : nX ≠ qN))
        have wY := ak ((by rw [hg]; exact Nat.ne_of_gt (xQ (g := nX) (o := .cells #[.string (⟨#[83, 117, 98, 106, 101, 99, 116]⟩ : ByteArray), .string wJ] 69 (0, 0)) (ub jS.out)) : qN ≠ nX))
        replace kP := rb kP hb
        replace rP := rb rP hb
        replace Kq := rb Kq hb
        replace dX := kb dX hb
        replace jS := ak (lV (g := nX) (o := .cells #[.string (⟨#[83, 117, 98, 106, 101, 99, 116]⟩ : ByteArray), .string wJ] 69 (0, 0)) (ub jS.out) hb)
        replace HB := bz HB hb
        clear hb hbox hg
        refine hK.out _ _ ⟨(aA jS.out 0).trans rfl, (aA jS.out 1).trans rfl, Yv⟩ (fun hHeld => ?_)
        clear hK K
        refine nrm ?_
        exact qF (by simp only [yE, Act.put, qQ, qR, l_c] <;> rfl) (SQ (.slice atD OD.length atE, qN) _ ⟨hHeld, (ur (Kd.bn kP.out (fun _ hk => hk.2))), (ur (Kd.bn rP.out (fun _ hk => hk.2))), (ur (Kd.bn Kq.out (fun _ hk => hk.2))), (ub dX.out), (ub jS.out), (ub tK.out), aaW.out, aaX.out, qY.out, wX.out, pK.out, wY.out, bb⟩)
       ·
        skip
        refine Qq ?hg (N := 14) ?hd (cs := #[.slice none 0 0, .slice none 0 0, .slice none 0 0]) (t := 28) ?hr ?_; (case hd => rfl); (case hg => rfl); (case hr => first | (go_simp; done) | (go_simp; rfl))
        intro qN hg w28 hbox hb
        have Yv := (hb.cell (World.block_lt_of_cell? _ _ (hHeld.2.2))).trans (hHeld.2.2)
        have tK := ak (hbox)
        have aaW := ak ((by rw [hg]; exact (aj bb) : w.heap.size ≤ qN))
        have aaX := ak ((by rw [hg]; exact (aj bb) : w.heap.size ≤ qN))
        have qY := BL dX hg
        have wX := BM dX hg
        have pK := ak ((by rw [hg]; exact Nat.ne_of_lt (xQ (g := nX) (o := .cells #[.string (⟨#[83, 117, 98, 106, 101, 99, 116]⟩ : ByteArray), .string wJ] 69 (0, 0)) (ub jS.out)) : nX ≠ qN))
        have wY := ak ((by rw [hg]; exact Nat.ne_of_gt (xQ (g := nX) (o := .cells #[.string (⟨#[83, 117, 98, 106, 101, 99, 116]⟩ : ByteArray), .string wJ] 69 (0, 0)) (ub jS.out)) : qN ≠ nX))
        replace kP := rb kP hb
        replace rP := rb rP hb
        replace dX := kb dX hb
        replace jS := ak (lV (g := nX) (o := .cells #[.string (⟨#[83, 117, 98, 106, 101, 99, 116]⟩ : ByteArray), .string wJ] 69 (0, 0)) (ub jS.out) hb)
        replace HB := bz HB hb
        clear hb hbox hg
        refine hK.out _ _ ⟨(aA jS.out 0).trans rfl, (aA jS.out 1).trans rfl, Yv⟩ (fun hHeld => ?_)
        clear hK K
        refine nrm ?_
        refine o1 7 (fun K hK => ?_)
        refine Kd.qM qj _ 69 ?hg (N := 62) ?hd (xs := ([(⟨(⟨#[83, 117, 98, 106, 101, 99, 116]⟩ : ByteArray), wJ⟩ : gU), (⟨(⟨#[67, 111, 110, 116, 101, 110, 116, 45, 84, 121, 112, 101]⟩ : ByteArray), (⟨#[116, 101, 120, 116, 47, 112, 108, 97, 105, 110, 59, 32, 99, 104, 97, 114, 115, 101, 116, 61, 117, 116, 102, 45, 56]⟩ : ByteArray)⟩ : gU), (⟨(⟨#[67, 111, 110, 116, 101, 110, 116, 45, 84, 114, 97, 110, 115, 102, 101, 114, 45, 69, 110, 99, 111, 100, 105, 110, 103]⟩ : ByteArray), o9 ByteArray.empty Ae Dv⟩ : gU)] : List (gU))) (inner := [.string (⟨#[83, 117, 98, 106, 101, 99, 116]⟩ : ByteArray), .string wJ, .string (⟨#[67, 111, 110, 116, 101, 110, 116, 45, 84, 121, 112, 101]⟩ : ByteArray), .string (⟨#[116, 101, 120, 116, 47, 112, 108, 97, 105, 110, 59, 32, 99, 104, 97, 114, 115, 101, 116, 61, 117, 116, 102, 45, 56]⟩ : ByteArray), .string (⟨#[67, 111, 110, 116, 101, 110, 116, 45, 84, 114, 97, 110, 115, 102, 101, 114, 45, 69, 110, 99, 111, 100, 105, 110, 103]⟩ : ByteArray), .string (o9 ByteArray.empty Ae Dv)]) (ok := fun _ => True) (wE := fun _ => True) ?hr ?hp (fun _ hk => hk) trivial (Below.refl _ _) (Nat.le_refl _) (by simp) ?_; (case hd => rfl); (case hg => rfl); (case hr => first | (go_simp; done) | (go_simp; rfl)); (case hp => exact (dD.c2 (show Kd.M qj _ _ _ (⟨(⟨#[83, 117, 98, 106, 101, 99, 116]⟩ : ByteArray), wJ⟩ : gU) [.string (⟨#[83, 117, 98, 106, 101, 99, 116]⟩ : ByteArray), .string wJ] from (wM _ _ _ (⟨(⟨#[83, 117, 98, 106, 101, 99, 116]⟩ : ByteArray), wJ⟩ : gU) )) (dD.c2 (show Kd.M qj _ _ _ (⟨(⟨#[67, 111, 110, 116, 101, 110, 116, 45, 84, 121, 112, 101]⟩ : ByteArray), (⟨#[116, 101, 120, 116, 47, 112, 108, 97, 105, 110, 59, 32, 99, 104, 97, 114, 115, 101, 116, 61, 117, 116, 102, 45, 56]⟩ : ByteArray)⟩ : gU) [.string (⟨#[67, 111, 110, 116, 101, 110, 116, 45, 84, 121, 112, 101]⟩ : ByteArray), .string (⟨#[116, 101, 120, 116, 47, 112, 108, 97, 105, 110, 59, 32, 99, 104, 97, 114, 115, 101, 116, 61, 117, 116, 102, 45, 56]⟩ : ByteArray)] from (wM _ _ _ (⟨(⟨#[67, 111, 110, 116, 101, 110, 116, 45, 84, 121, 112, 101]⟩ : ByteArray), (⟨#[116, 101, 120, 116, 47, 112, 108, 97, 105, 110, 59, 32, 99, 104, 97, 114, 115, 101, 116, 61, 117, 116, 102, 45, 56]⟩ : ByteArray)⟩ : gU) )) (dD.c2 (show Kd.M qj _ _ _ (⟨(⟨#[67, 111, 110, 116, 101, 110, 116, 45, 84, 114, 97, 110, 115, 102, 101, 114, 45, 69, 110, 99, 111, 100, 105, 110, 103]⟩ : ByteArray), o9 ByteArray.empty Ae Dv⟩ : gU) [.string (⟨#[67, 111, 110, 116, 101, 110, 116, 45, 84, 114, 97, 110, 115, 102, 101, 114, 45, 69, 110, 99, 111, 100, 105, 110, 103]⟩ : ByteArray), .string (o9 ByteArray.empty Ae Dv)] from (wM _ _ _ (⟨(⟨#[67, 111, 110, 116, 101, 110, 116, 45, 84, 114, 97, 110, 115, 102, 101, 114, 45, 69, 110, 99, 111, 100, 105, 110, 103]⟩ : ByteArray), o9 ByteArray.empty Ae Dv⟩ : gU) )) (dD.none _ _)))))
        intro an8 w29 WQ hb BX wH
        have Yv := (hb.cell (World.block_lt_of_cell? _ _ (hHeld.2.2))).trans (hHeld.2.2)
        clear BX wH
        (first | rw [← WL.out] at WQ | (simp only [Int.reduceToNat] at WQ; rw [← WL.out] at WQ))
        have Kq := ak (Kd.aC (Kd.nN WQ (g := nX) (o := .cells #[.string (⟨#[83, 117, 98, 106, 101, 99, 116]⟩ : ByteArray), .string wJ] 69 (0, 0)) (ub jS.out)) (aj bb))
        replace kP := rb kP hb
        replace rP := rb rP hb
        replace dX := kb dX hb
        replace jS := ak (lV (g := nX) (o := .cells #[.string (⟨#[83, 117, 98, 106, 101, 99, 116]⟩ : ByteArray), .string wJ] 69 (0, 0)) (ub jS.out) hb)
        replace tK := kb tK hb
        replace HB := bz HB hb
        clear hb WQ
        obtain ⟨an9, an_, ah3⟩ := Kd.aV Kq.out
        (first | subst ah3 | (injection ah3 with qV xB qW; have xC := qV.symm; have xE := qW.symm; clear qV xB qW; subst xC; subst xE))
        refine hK.out _ _ ⟨(aA jS.out 0).trans rfl, (aA jS.out 1).trans rfl, Yv⟩ (fun hHeld => ?_)
        clear hK K
        refine nrm ?_
        refine pl 8 ?_
        exact qF (by simp only [yE, Act.put, qQ, qR, l_c] <;> rfl) (SQ (.slice an9 OD.length an_, qN) _ ⟨hHeld, (ur (Kd.bn kP.out (fun _ hk => hk.2))), (ur (Kd.bn rP.out (fun _ hk => hk.2))), (ur (Kd.bn Kq.out (fun _ hk => hk.2))), (ub dX.out), (ub jS.out), (ub tK.out), aaW.out, aaX.out, qY.out, wX.out, pK.out, wY.out, bb⟩)
      rintro ⟨an8, qN⟩ w32 ⟨hS_, h0_, h1_, h2_, h3_, h4_, h5_, h6_, h7_, h8_, h9_, UZ, acC, aoa⟩
      have y5 : ah (Kd.R Kd.string 9 w32 w.heap.size (fun k_ => some k_ ≠ (.slice (some Qp) Ae.length ah0 : Value).ownBlock) (.slice P8 J_.length Oy) J_) := ⟨h0_⟩
      have y7 : ah (Kd.R Kd.string 9 w32 w.heap.size (fun k_ => some k_ ≠ (.slice P8 J_.length Oy : Value).ownBlock) (.slice (some Qp) Ae.length ah0) Ae) := ⟨h1_⟩
      have zT : ah (Kd.R qj 69 w32 w.heap.size (fun k_ => k_ ≠ nX) an8 OD) := ⟨h2_⟩
      have Dq : ah (w32.heap[wz]? = some (.cells #[.slice none 0 0, .slice none 0 0, .slice none 0 0] 28 (0, 0))) := ⟨h3_⟩
      have Ib : ah (w32.heap[nX]? = some (.cells #[.string (⟨#[83, 117, 98, 106, 101, 99, 116]⟩ : ByteArray), .string wJ] 69 (0, 0))) := ⟨h4_⟩
      have Kr : ah (w32.heap[qN]? = some (.cells #[.slice none 0 0, .slice none 0 0, .slice none 0 0] 28 (0, 0))) := ⟨h5_⟩
      have N7 : ah (w.heap.size ≤ qN) := ⟨h6_⟩
      have SS : ah (w.heap.size ≤ qN) := ⟨h7_⟩
      have WR : ah (wz ≠ qN) := ⟨h8_⟩
      have n9_ : ah (qN ≠ wz) := ⟨h9_⟩
      have Qr : ah (nX ≠ qN) := ⟨UZ⟩
      have aex : ah (qN ≠ nX) := ⟨acC⟩
      have atF : ah (Below w.heap.size w w32) := ⟨aoa⟩
      clear kP rP dX jS HB h0_ h1_ h2_ h3_ h4_ h5_ h6_ h7_ h8_ h9_ UZ acC aoa
      have kP := y5
      have rP := y7
      have Kq := zT
      have dX := Dq
      have jS := Ib
      have tK := Kr
      have aaW := N7
      have aaX := SS
      have qY := WR
      have wX := n9_
      have pK := Qr
      have wY := aex
      have HB := atF
      clear y5 y7 zT Dq Ib Kr N7 SS WR n9_ Qr aex atF
      have hHeld : w32.cell? ⟨nX, 0, none⟩ = some (.string (⟨#[83, 117, 98, 106, 101, 99, 116]⟩ : ByteArray)) ∧ w32.cell? ⟨nX, 1, none⟩ = some (.string wJ) ∧ w32.cell? (Qp.add (Dv).toNat) = some (.string (o9 ByteArray.empty Ae Dv)) := hS_
      obtain ⟨RX, RY, aey⟩ := Kd.aV Kq.out
      (first | subst aey | (injection aey with qV xB qW; have xC := qV.symm; have xE := qW.symm; clear qV xB qW; subst xC; subst xE))
      refine qF (a' := ?_) ?_ ?_
      rotate_left
      ·
       simp only [yE, Act.put, qQ, qR, l_c]
       rfl
      refine o1 10 (fun K hK => ?_)
      have aHq : w32.cell? ⟨qN, 0, none⟩ = some (.slice none 0 0) := (aA tK.out 0).trans rfl
      have aCU := gX tK.out 0
      have axq := qY.out
      have axr := pK.out
      have axt := wX.out
      have axu := wY.out
      have aHr : w32.cell? ⟨qN, 1, none⟩ = some (.slice none 0 0) := (aA tK.out 1).trans rfl
      have aCV := gX tK.out 1
      have axv := qY.out
      have axw := pK.out
      have axx := wX.out
      have axy := wY.out
      have azN : w32.cell? ⟨qN, 2, none⟩ = some (.slice none 0 0) := (aA tK.out 2).trans rfl
      have atG := gX tK.out 2
      have ah4 := qY.out
      have ah5 := pK.out
      have ah6 := wX.out
      have ah7 := wY.out
      refine Ic (w1 := ?_) (by rfl) rfl ?_ ?_
      rotate_left
      ·
       go_simp
       rfl
      refine hK.out _ _ ⟨((cell_far (p := ⟨qN, _, none⟩) pK.out _).trans (((cell_far (p := ⟨qN, _, none⟩) pK.out _).trans (((cell_far (p := ⟨qN, _, none⟩) pK.out _).trans (hHeld.1)))))), ((cell_far (p := ⟨qN, _, none⟩) pK.out _).trans (((cell_far (p := ⟨qN, _, none⟩) pK.out _).trans (((cell_far (p := ⟨qN, _, none⟩) pK.out _).trans (hHeld.2.1)))))), ((cell_far (p := ⟨qN, _, none⟩) (by first | exact Kd.vT (Kd.oU rP.out tK.out (by decide)) | (rw [add_block]; exact Kd.vT (Kd.oU rP.out tK.out (by decide))) | (show (Addr.add _ _).block ≠ _; rw [add_block]; exact Kd.vT (Kd.oU rP.out tK.out (by decide))) | (dsimp only; exact Kd.vT (Kd.oU rP.out tK.out (by decide)))) _).trans (((cell_far (p := ⟨qN, _, none⟩) (by first | exact Kd.vT (Kd.oU rP.out tK.out (by decide)) | (rw [add_block]; exact Kd.vT (Kd.oU rP.out tK.out (by decide))) | (show (Addr.add _ _).block ≠ _; rw [add_block]; exact Kd.vT (Kd.oU rP.out tK.out (by decide))) | (dsimp only; exact Kd.vT (Kd.oU rP.out tK.out (by decide)))) _).trans (((cell_far (p := ⟨qN, _, none⟩) (by first | exact Kd.vT (Kd.oU rP.out tK.out (by decide)) | (rw [add_block]; exact Kd.vT (Kd.oU rP.out tK.out (by decide))) | (show (Addr.add _ _).block ≠ _; rw [add_block]; exact Kd.vT (Kd.oU rP.out tK.out (by decide))) | (dsimp only; exact Kd.vT (Kd.oU rP.out tK.out (by decide)))) _).trans (hHeld.2.2))))))⟩ (fun hHeld => ?_)
      clear hK K
      refine Ie (yQ ug.out (by kernel_rfl)) ?_
      have atH := wX.out
      have atI := qY.out
      have atJ := wY.out
      have atK := pK.out
      have z39 := jW tK.out
      have z40 := jW dX.out
      have aCW := jW (jV (cs' := #[.slice RX OD.length RY, .slice P8 J_.length Oy, .slice none 0 0]) (jV (cs' := #[.slice RX OD.length RY, .slice none 0 0, .slice none 0 0]) (jV (cs' := #[.slice RX OD.length RY, .slice none 0 0, .slice none 0 0]) (jV (cs' := #[.slice RX OD.length RY, .slice none 0 0, .slice none 0 0]) tK.out 0 (.slice RX OD.length RY) rfl) 1 (.slice none 0 0) rfl) 2 (.slice none 0 0) rfl) 1 (.slice P8 J_.length Oy) rfl)
      try go_wp2
      refine bodyPost_ret (lG rfl _ _ wz 28 #[.slice RX OD.length RY, .slice P8 J_.length Oy, .slice none 0 0] (0, 0) _ rfl bq Tryz.underlying28 rfl (by kernel_rfl)) rfl ?_
      exact ⟨_, _, _, er, rr, rr, nx, bb⟩
     ·
      obtain ⟨rfl, rfl, rfl, rfl⟩ := s4 H
      go_enter Tryz.func167, Tryz.ntmps167
      go_wp2_with (first | (refine bX HB 4 #[.slice none 0 0, .slice none 0 0, .slice none 0 0] 28 ?_; intro wz w41 dX WM hb; replace HB := bs HB hb; clear hb) | (refine gB Tryz.func194 (bK.calls A3.out) ?_; intro w42 hb; replace dX := kb dX hb; replace HB := bz HB hb; clear hb) | (refine gB Tryz.func195 (lQ.calls A4.out) ?_; intro w43 hb; replace dX := kb dX hb; replace HB := bz HB hb; clear hb) | (refine gV Tryz.func196 (jJ.calls A5.out) ?_; rintro aeu w44 ⟨ho0, hb⟩; have kP := ak (Kd.aC ho0 (aj bb)); replace dX := kb dX hb; replace HB := bz HB hb; clear hb; (try clear ho0)) | (refine bY HB 12 #[.string (⟨#[]⟩ : ByteArray), .string (⟨#[]⟩ : ByteArray)] 69 ?_; intro nX w45 jS WO hg hb; have kC := BL dX hg; have sW := BM dX hg; replace kP := rb kP hb; replace dX := kb dX hb; replace HB := bz HB hb; clear hb hg; have atL := sW.out; have atM := kC.out; have z47 := zQ jS.out) | (go_at_call 158; refine mB (jd.calls A9.out) ?_; intro w48 hb; replace kP := rg kP hb; replace dX := kp dX #[.slice none 0 0, .slice none 0 0, .slice none 0 0] hb; replace jS := kp jS #[.string (⟨#[83, 117, 98, 106, 101, 99, 116]⟩ : ByteArray), .string wJ] hb; replace HB := bz HB hb; clear hb; obtain ⟨acD, acE, aez⟩ := Kd.aV kP.out; subst aez) | (go_at_call 114; refine mA (iH.calls (cu ((Kd.aH kP.out).2.2)) ((Kd.aH kP.out).2.1) Zn.out) ?_; intro nd; (try (rw [Qn w48]; generalize hq_ : World.drewN w48 _ = w48; have y5 : ah (Kd.R Kd.string 9 w48 w.heap.size (fun _ => True) (.slice acD J_.length acE) J_) := ⟨by rw [← hq_]; exact (ur kP.out)⟩; have y7 : ah (w48.heap[wz]? = some (.cells #[.slice none 0 0, .slice none 0 0, .slice none 0 0] 28 (0, 0))) := ⟨by rw [← hq_]; exact (ub dX.out)⟩; have zT : ah (w48.heap[nX]? = some (.cells #[.string (⟨#[83, 117, 98, 106, 101, 99, 116]⟩ : ByteArray), .string wJ] 69 (0, 0))) := ⟨by rw [← hq_]; exact (ub jS.out)⟩; have Dq : ah (Below w.heap.size w w48) := ⟨by rw [← hq_]; exact bb⟩; clear kP dX jS HB hq_; have kP := y5; have dX := y7; have jS := zT; have HB := Dq; clear y5 y7 zT Dq)); have z50 := jW dX.out))
      refine bodyPost_ret (lG rfl _ _ wz 28 #[.slice none 0 0, .slice none 0 0, .slice none 0 0] (0, 0) _ rfl bq Tryz.underlying28 rfl (by kernel_rfl)) rfl ?_
      exact ⟨_, _, _, er, nx, nx, nx, bb⟩
    ·
     obtain ⟨rfl, rfl, rfl, rfl⟩ := s4 H
     go_enter Tryz.func167, Tryz.ntmps167
     go_wp2_with (first | (refine bX HB 4 #[.slice none 0 0, .slice none 0 0, .slice none 0 0] 28 ?_; intro wz w51 dX WM hb; replace HB := bs HB hb; clear hb) | (refine gB Tryz.func194 (bK.calls A3.out) ?_; intro w52 hb; replace dX := kb dX hb; replace HB := bz HB hb; clear hb) | (refine gB Tryz.func195 (lQ.calls A4.out) ?_; intro w53 hb; replace dX := kb dX hb; replace HB := bz HB hb; clear hb) | (refine gV Tryz.func196 (jJ.calls A5.out) ?_; rintro aeu w54 ⟨ho0, hb⟩; have kP := ak (Kd.aC ho0 (aj bb)); replace dX := kb dX hb; replace HB := bz HB hb; clear hb; (try clear ho0)) | (refine bY HB 12 #[.string (⟨#[]⟩ : ByteArray), .string (⟨#[]⟩ : ByteArray)] 69 ?_; intro nX w55 jS WO hg hb; have kC := BL dX hg; have sW := BM dX hg; replace kP := rb kP hb; replace dX := kb dX hb; replace HB := bz HB hb; clear hb hg; have atN := sW.out; have atO := kC.out; have z57 := zQ jS.out) | (go_at_call 158; refine mB (jd.calls A9.out) ?_; intro w58 hb; replace kP := rg kP hb; replace dX := kp dX #[.slice none 0 0, .slice none 0 0, .slice none 0 0] hb; replace jS := kp jS #[.string (⟨#[83, 117, 98, 106, 101, 99, 116]⟩ : ByteArray), .string wJ] hb; replace HB := bz HB hb; clear hb; have z59 := jW dX.out))
     refine bodyPost_ret (lG rfl _ _ wz 28 #[.slice none 0 0, .slice none 0 0, .slice none 0 0] (0, 0) _ rfl bq Tryz.underlying28 rfl (by kernel_rfl)) rfl ?_
     exact ⟨_, _, _, er, nx, nx, nx, bb⟩
   ·
    obtain ⟨rfl, rfl, rfl, rfl⟩ := s4 H
    go_enter Tryz.func167, Tryz.ntmps167
    go_wp2_with (first | (refine bX HB 4 #[.slice none 0 0, .slice none 0 0, .slice none 0 0] 28 ?_; intro wz SC dX WM hb; replace HB := bs HB hb; clear hb) | (refine gB Tryz.func194 (bK.calls A3.out) ?_; intro w61 hb; replace dX := kb dX hb; replace HB := bz HB hb; clear hb) | (refine gB Tryz.func195 (lQ.calls A4.out) ?_; intro w62 hb; replace dX := kb dX hb; replace HB := bz HB hb; clear hb) | (refine gV Tryz.func196 (jJ.calls A5.out) ?_; rintro aeu w63 ⟨ho0, hb⟩; have kP := ak (Kd.aC ho0 (aj bb)); replace dX := kb dX hb; replace HB := bz HB hb; clear hb; (try clear ho0)) | (refine bY HB 12 #[.string (⟨#[]⟩ : ByteArray), .string (⟨#[]⟩ : ByteArray)] 69 ?_; intro nX w64 jS WO hg hb; have kC := BL dX hg; have sW := BM dX hg; replace kP := rb kP hb; replace dX := kb dX hb; replace HB := bz HB hb; clear hb hg; have aCX := sW.out; have aCY := kC.out; have z66 := zQ jS.out; have z67 := jW dX.out))
    refine bodyPost_ret (lG rfl _ _ wz 28 #[.slice none 0 0, .slice none 0 0, .slice none 0 0] (0, 0) _ rfl bq Tryz.underlying28 rfl (by kernel_rfl)) rfl ?_
    exact ⟨_, _, _, er, nx, nx, nx, bb⟩
  ·
   obtain ⟨rfl, rfl, rfl, rfl⟩ := s4 H
   go_enter Tryz.func167, Tryz.ntmps167
   go_wp2_with (first | (refine bX HB 4 #[.slice none 0 0, .slice none 0 0, .slice none 0 0] 28 ?_; intro wz w68 dX WM hb; replace HB := bs HB hb; clear hb) | (refine gB Tryz.func194 (bK.calls A3.out) ?_; intro w69 hb; replace dX := kb dX hb; replace HB := bz HB hb; clear hb) | (refine gB Tryz.func195 (lQ.calls A4.out) ?_; intro w70 hb; replace dX := kb dX hb; replace HB := bz HB hb; clear hb) | (refine gV Tryz.func196 (jJ.calls A5.out) ?_; rintro aeu w71 ⟨ho0, hb⟩; have kP := ak (Kd.aC ho0 (aj bb)); replace dX := kb dX hb; replace HB := bz HB hb; clear hb; (try clear ho0)) | (refine bY HB 12 #[.string (⟨#[]⟩ : ByteArray), .string (⟨#[]⟩ : ByteArray)] 69 ?_; intro nX w72 jS WO hg hb; have kC := BL dX hg; have sW := BM dX hg; replace kP := rb kP hb; replace dX := kb dX hb; replace HB := bz HB hb; clear hb hg; have aCZ := sW.out; have aC0 := kC.out; have z74 := zQ jS.out; have z75 := jW dX.out))
   refine bodyPost_ret (lG rfl _ _ wz 28 #[.slice none 0 0, .slice none 0 0, .slice none 0 0] (0, 0) _ rfl bq Tryz.underlying28 rfl (by kernel_rfl)) rfl ?_
   exact ⟨_, _, _, er, nx, nx, nx, bb⟩
 ·
  obtain ⟨rfl, rfl, rfl, rfl⟩ := s4 H
  go_enter Tryz.func167, Tryz.ntmps167
  go_wp2_with (first | (refine bX HB 4 #[.slice none 0 0, .slice none 0 0, .slice none 0 0] 28 ?_; intro wz w76 dX WM hb; replace HB := bs HB hb; clear hb) | (refine gB Tryz.func194 (bK.calls A3.out) ?_; intro w77 hb; replace dX := kb dX hb; replace HB := bz HB hb; clear hb) | (refine gB Tryz.func195 (lQ.calls A4.out) ?_; intro w78 hb; replace dX := kb dX hb; replace HB := bz HB hb; clear hb) | (refine gV Tryz.func196 (jJ.calls A5.out) ?_; rintro aeu w79 ⟨ho0, hb⟩; have kP := ak (Kd.aC ho0 (aj bb)); replace dX := kb dX hb; replace HB := bz HB hb; clear hb; (try clear ho0)) | (refine bY HB 12 #[.string (⟨#[]⟩ : ByteArray), .string (⟨#[]⟩ : ByteArray)] 69 ?_; intro nX w80 jS WO hg hb; have kC := BL dX hg; have sW := BM dX hg; replace kP := rb kP hb; replace dX := kb dX hb; replace HB := bz HB hb; clear hb hg; have atP := sW.out; have atQ := kC.out; have z82 := zQ jS.out; have z83 := jW dX.out))
  refine bodyPost_ret (lG rfl _ _ wz 28 #[.slice none 0 0, .slice none 0 0, .slice none 0 0] (0, 0) _ rfl bq Tryz.underlying28 rfl (by kernel_rfl)) rfl ?_
  exact ⟨_, _, _, er, nx, nx, nx, bb⟩
def sH.f (k : Nat) (a0 : ByteArray) (a1 : ByteArray) : Option ((List (gU)) × List ByteArray × (List (mY)) × Bool) := (fV.f k a0 a1).bind fun aaY => ((iE.f k aaY.1 aaY.2.1 aaY.2.2.1).bind fun aeA => (some (aeA.1, aeA.2.1, aeA.2.2, aaY.2.2.2)))
theorem sH.calls {k : Nat} {a0 a1 : ByteArray} {r1 : List (gU)} {r2 : List ByteArray} {r3 : List (mY)} {r4 : Bool} {w : World} (h : sH.f k a0 a1 = some (r1, r2, r3, r4)) :
  Calls Tryz.prog 142 #[.string a0, .string a1] w fun e w' => ∃ ql DT E8 : Value, e = .returned (.tuple #[.agg #[ql, DT, E8], .bool r4]) ∧ Kd.R qj 69 w' w.heap.size (fun _ => True) ql r1 ∧ Kd.R Kd.string 9 w' w.heap.size (fun _ => True) DT r2 ∧ Kd.R k28 28 w' w.heap.size (fun k_ => some k_ ≠ (ql : Value).ownBlock ∧ some k_ ≠ (DT : Value).ownBlock) E8 r3 ∧ Below w.heap.size w w' := by
 have Dj := Tryz.underlying28
 have HB := ak (Below.refl w.heap.size w)
 unfold sH.f at h; have H := h
 clear h
 replace H := bd H
 obtain ⟨⟨WS, WT, Yw, aHs⟩, A3, H⟩ := H
 (try dsimp only at H)
 replace H := bd H
 obtain ⟨⟨azO, azP, azQ⟩, A4, H⟩ := H
 (try dsimp only at H)
 obtain ⟨rfl, rfl, rfl, rfl⟩ := s4 H
 go_enter Tryz.func142, Tryz.ntmps142
 go_wp2_with (first | (refine bX HB 4 #[.slice none 0 0, .slice none 0 0, .slice none 0 0] 28 ?_; intro aaZ w5 Ii aC1 hb; replace HB := bs HB hb; clear hb) | (refine gL 167 11 Tryz.func167 #[.string a0, .string a1] ?_; (with_reducible refine (fV.calls A3.out).mono ?_); rintro e w6 ⟨aHt, aHu, aHv, rfl, ho0, ho1, ho2, hb⟩; refine ⟨_, rfl, ?_⟩; have Kt := ak (Kd.aC ho0 (aj bb)); have Ku := ak (Kd.aC ho1 (aj bb)); have N8 := ak (Kd.aC (Kd.nN ho2 (g := aaZ) (o := .cells #[.slice none 0 0, .slice none 0 0, .slice none 0 0] 28 (0, 0)) (ub Ii.out)) (aj bb)); replace Ii := kb Ii hb; replace HB := bz HB hb; clear hb; (try clear ho0); (try clear ho1); (try clear ho2)) | (refine bY HB 6 #[.slice none 0 0, .slice none 0 0, .slice none 0 0] 28 ?_; intro AB w7 aeB aC2 hg hb; have acF := BL Ii hg; have acG := BM Ii hg; replace Kt := rb Kt hb; replace Ku := rb Ku hb; replace N8 := ak (Kd.sO (Kd.yZ (ur N8.out) AB (Nat.le_of_eq hg.symm)) hb); replace Ii := kb Ii hb; replace HB := bz HB hb; clear hb hg; obtain ⟨RH, O9, eo8⟩ := Kd.aV Kt.out; subst eo8; have aym := acG.out; have ayn := acF.out; have z10 := jW aeB.out; obtain ⟨AA, y9, P7⟩ := Kd.aV Ku.out; subst P7; obtain ⟨E_, ES, Uc⟩ := Kd.aV N8.out; subst Uc) | (refine gL 61 15 Tryz.func61 #[.agg #[.slice RH WS.length O9, .slice AA WT.length y9, .slice E_ Yw.length ES]] ?_; (with_reducible refine (iE.calls ?fU ((Kd.aH Kt.out).2.1) ?zk ((Kd.aH Ku.out).2.1) ?zl ((Kd.aH N8.out).2.1) A4.out).mono ?_); (case fU => refine (Kd.aH (e := 69) (base := w.heap.size) (ok := fun k_ => True) (n := WS.length) (c := O9) ?_).2.2; exact (rh Kt)); (case zk => refine (Kd.aH (e := 9) (base := w.heap.size) (ok := fun k_ => True) (n := WT.length) (c := y9) ?_).2.2; exact (rh Ku)); (case zl => refine (Kd.aH (e := 28) (base := w.heap.size) (ok := fun k_ => (((some k_ ≠ (.slice RH WS.length O9 : Value).ownBlock ∧ some k_ ≠ (.slice AA WT.length y9 : Value).ownBlock) ∧ k_ ≠ aaZ) ∧ k_ ≠ AB)) (n := Yw.length) (c := ES) ?_).2.2; exact (ur (Kd.bn (Kd.lS (p := ⟨AB, 2, none⟩) (Kd.lS (p := ⟨AB, 1, none⟩) (Kd.lS (p := ⟨AB, 0, none⟩) (Kd.bn N8.out (fun k_ hk => (⟨hk, hk.2⟩ : _ ∧ k_ ≠ AB))) (fun _ hk => hk.2) (.slice RH WS.length O9)) (fun _ hk => hk.2) (.slice AA WT.length y9)) (fun _ hk => hk.2) (.slice E_ Yw.length ES)) (fun _ h_ => h_.1)))); rintro e w13 ⟨aHw, aHx, aHy, rfl, ho0, ho1, ho2, hb⟩; refine ⟨_, rfl, ?_⟩; have atS := ak (Kd.aC (Kd.gK ho0 (Kd.kU (rh Kt))) (aj bb)); have atT := ak (Kd.aC (Kd.gK ho1 (Kd.kU (rh Ku))) (aj bb)); have atU := ak (Kd.aC (Kd.nN (Kd.nN (Kd.gK (Kd.gK (Kd.gK ho2 (Kd.kU (rh Kt))) (Kd.kU (rh Ku))) (Kd.kU (ur (Kd.bn (Kd.lS (p := ⟨AB, 2, none⟩) (Kd.lS (p := ⟨AB, 1, none⟩) (Kd.lS (p := ⟨AB, 0, none⟩) (Kd.bn N8.out (fun k_ hk => (⟨hk, hk.2⟩ : _ ∧ k_ ≠ AB))) (fun _ hk => hk.2) (.slice RH WS.length O9)) (fun _ hk => hk.2) (.slice AA WT.length y9)) (fun _ hk => hk.2) (.slice E_ Yw.length ES)) (fun _ h_ => h_.1))))) (g := aaZ) (o := .cells #[.slice none 0 0, .slice none 0 0, .slice none 0 0] 28 (0, 0)) bq) (g := AB) (o := .cells #[.slice RH WS.length O9, .slice AA WT.length y9, .slice E_ Yw.length ES] 28 (0, 0)) bq) (aj bb)); replace Kt := ak (Kd.fP (rh Kt) (Kd.fO ho0) hb); replace Ku := ak (Kd.fP (rh Ku) (Kd.fO ho1) hb); replace N8 := ak (Kd.bn (Kd.tV (Kd.tV (Kd.tV (Kd.adu (ur (Kd.bn (Kd.lS (p := ⟨AB, 2, none⟩) (Kd.lS (p := ⟨AB, 1, none⟩) (Kd.lS (p := ⟨AB, 0, none⟩) (Kd.bn N8.out (fun k_ hk => (⟨hk, hk.2⟩ : _ ∧ k_ ≠ AB))) (fun _ hk => hk.2) (.slice RH WS.length O9)) (fun _ hk => hk.2) (.slice AA WT.length y9)) (fun _ hk => hk.2) (.slice E_ Yw.length ES)) (fun _ h_ => h_.1))) hb) (Kd.fO ho0)) (Kd.fO ho1)) (Kd.fO ho2)) (fun _ h_ => h_.1)); replace Ii := kp Ii #[.slice none 0 0, .slice none 0 0, .slice none 0 0] hb; replace aeB := kp aeB #[.slice RH WS.length O9, .slice AA WT.length y9, .slice E_ Yw.length ES] hb; replace HB := bz HB hb; clear hb; (try clear ho0); (try clear ho1); (try clear ho2); obtain ⟨ace, acf, XV⟩ := Kd.aV atS.out; subst XV; have z15 := jW Ii.out; obtain ⟨WC, WE, UQ⟩ := Kd.aV atT.out; subst UQ; obtain ⟨Hq, FC, Ws⟩ := Kd.aV atU.out; subst Ws))
 refine bodyPost_ret (lG rfl _ _ aaZ 28 #[.slice ace azO.length acf, .slice WC azP.length WE, .slice Hq azQ.length FC] (0, 0) _ rfl bq Tryz.underlying28 rfl (by kernel_rfl)) rfl ?_
 exact ⟨_, _, _, er, rr, rr, rr, bb⟩
mutual
def iI.l0 : Nat → ByteArray → Int → List Int → Int → Option (ByteArray × Int)
 | 0, _, _, _, _ => none
 | k + 1, x3, x4, x1000, oQ => if x4 > 0 then ((fE.f k x1000 oQ (([(⟨#[104, 101, 108, 108, 111]⟩ : ByteArray), (⟨#[32]⟩ : ByteArray), (⟨#[61]⟩ : ByteArray), (⟨#[10]⟩ : ByteArray), (⟨#[255, 0]⟩ : ByteArray), (⟨#[99, 97, 102, 195, 169]⟩ : ByteArray), (⟨#[97, 32, 108, 111, 110, 103, 101, 114, 32, 114, 111, 119, 32, 111, 102, 32, 119, 111, 114, 100, 115, 32, 116, 104, 97, 116, 32, 105, 115, 32, 98, 114, 111, 107, 101, 110, 32, 104, 101, 114, 101]⟩ : ByteArray), (⟨#[120]⟩ : ByteArray), (⟨#[46]⟩ : ByteArray), (⟨#[9]⟩ : ByteArray)] : List ByteArray))).bind fun aeC => (if x3.size + aeC.1.size ≤ 9223372036854775807 then (iI.l0 k (x3 ++ aeC.1) (wrap64 (x4 - 1)) x1000 aeC.2) else (none))) else ((cZ.f k x1000 oQ 40).bind fun aeD => (if aeD.1 = 0 then (iI.l1 k x3 x1000 aeD.2) else (some (x3, aeD.2))))
def iI.l1 : Nat → ByteArray → List Int → Int → Option (ByteArray × Int)
 | 0, _, _, _ => none
 | k + 1, x3, x1000, oQ => if (x3.size : Int) ≤ 300 then (if x3.size + 10 ≤ 9223372036854775807 then (iI.l1 k (x3 ++ (⟨#[48, 49, 50, 51, 52, 53, 54, 55, 56, 57]⟩ : ByteArray)) x1000 oQ) else (none)) else (some (x3, oQ))
end
def iI.f (k : Nat) (eY : List Int) (kE : Int) : Option (ByteArray × Int) := (ku.f k eY kE (([3, 2, 5, 1, 0, 8] : List Int))).bind fun akL => (iI.l0 k (⟨#[]⟩ : ByteArray) akL.1 eY akL.2)
theorem iI.calls {k g : Nat} {eY : List Int} {kE r2 : Int} {r1 : ByteArray} {w : World} (w0 : World) (hI : aK w0 w g eY kE) (hB : Below w0.heap.size w0 w) (h : iI.f k eY kE = some (r1, r2)) :
  Calls Tryz.prog 143 #[.pointer (some ⟨g, 0, none⟩)] w fun e w' => e = .returned (.string r1) ∧ aK w0 w' g eY r2 ∧ Below w0.heap.size w0 w' ∧ aJ w w' g none := by
 have HI0 := ak hI
 have HK := ak (aJ.refl w g none)
 have HL := ak hB.size
 clear hI
 have HW0 := ak hB.size
 have HB := ak hB
 clear hB
 unfold iI.f at h; have H := h
 clear h
 obtain ⟨azR, akM⟩ := nm ([3, 2, 5, 1, 0, 8] : List Int)
 rw [← akM.out] at H
 replace H := bd H
 obtain ⟨⟨aHz, aHA⟩, A2, H⟩ := H
 (try dsimp only at H)
 have H' := ak H; clear H
 go_enter Tryz.func143, Tryz.ntmps143
 go_wp2_with (first | (refine RF 6 (Kd.int .i64) 3 [.int .i64 3, .int .i64 2, .int .i64 5, .int .i64 1, .int .i64 0, .int .i64 8] akM (dD.one (show Kd.M (Kd.int .i64) _ _ _ 3 [.int .i64 3] from rfl) (dD.one (show Kd.M (Kd.int .i64) _ _ _ 2 [.int .i64 2] from rfl) (dD.one (show Kd.M (Kd.int .i64) _ _ _ 5 [.int .i64 5] from rfl) (dD.one (show Kd.M (Kd.int .i64) _ _ _ 1 [.int .i64 1] from rfl) (dD.one (show Kd.M (Kd.int .i64) _ _ _ 0 [.int .i64 0] from rfl) (dD.one (show Kd.M (Kd.int .i64) _ _ _ 8 [.int .i64 8] from rfl) (dD.none _ _))))))) ?_; intro aHB w3 SN hb; have SV := ak (Kd.aC SN (dI (w := w) (g := g) (row := none) (kh HK.out))); replace HK := ak (aJ.trans (kh HK.out) (aJ.of_below hb g none) (.inl rfl)); replace HB := ak (iC o7 hb); replace HI0 := ak (aK.below oZ hb); clear hb SN; obtain ⟨Ao5, co5, eo5⟩ := Kd.aV SV.out; subst eo5) | (refine gL 97 7 Tryz.func97 #[.pointer (some ⟨g, 0, none⟩), .slice Ao5 azR.length co5] ?_; (with_reducible refine (ku.calls w0 ?fU ?iW (cu ((Kd.aH SV.out).2.2)) ((Kd.aH SV.out).2.1) (oh (aK.own_ne HI0.out SV.out (by decide))) A2.out).mono ?_); (case fU => exact oZ); (case iW => exact o7); rintro e w6 ⟨rfl, hi, hb, hk⟩; refine ⟨_, rfl, ?_⟩; replace SV := ki SV hk; replace HK := kt HK hk; replace HB := ak (hb); replace HI0 := ak (hi); clear hb; (try clear hk); (try clear hi)))
 go_loopg [3, 4] k (fun kq v3 v4 w' => ∃ (dM : ByteArray) (dV : Int) (xU : Int), v3 = .string dM ∧ v4 = .int .i64 dV ∧ ah (iI.l0 kq dM dV eY xU = some (r1, r2)) ∧ ah (kq ≤ k) ∧ ah (aK w0 w' g eY xU) ∧ ah (aJ w w' g none) ∧ ah (Below w0.heap.size w0 w'))
 case atStart => exact ⟨_, _, _, rs, rs, H', ⟨Nat.le_refl _⟩, ⟨oZ⟩, ⟨kh HK.out⟩, ⟨o7⟩⟩
 case round =>
  clear H'
  obtain ⟨dM, dV, xU, rfl, rfl, HA, xG, HI0, HK, HB⟩ := hrel
  cases gk with
  | zero => exact zz HA.out
  | succ k1 =>
   obtain ⟨H⟩ := HA
   simp only [iI.l0] at H
   replace H := sp H
   rcases H with ⟨c7, H⟩ | ⟨c7, H⟩
   ·
    have sD : decide (0 < dV) = true := decide_eq_true c7
    clear c7
    obtain ⟨azS, akN⟩ := nm ([(⟨#[104, 101, 108, 108, 111]⟩ : ByteArray), (⟨#[32]⟩ : ByteArray), (⟨#[61]⟩ : ByteArray), (⟨#[10]⟩ : ByteArray), (⟨#[255, 0]⟩ : ByteArray), (⟨#[99, 97, 102, 195, 169]⟩ : ByteArray), (⟨#[97, 32, 108, 111, 110, 103, 101, 114, 32, 114, 111, 119, 32, 111, 102, 32, 119, 111, 114, 100, 115, 32, 116, 104, 97, 116, 32, 105, 115, 32, 98, 114, 111, 107, 101, 110, 32, 104, 101, 114, 101]⟩ : ByteArray), (⟨#[120]⟩ : ByteArray), (⟨#[46]⟩ : ByteArray), (⟨#[9]⟩ : ByteArray)] : List ByteArray)
    rw [← akN.out] at H
    replace H := bd H
    obtain ⟨⟨azT, aHC⟩, A8, H⟩ := H
    (try dsimp only at H)
    replace H := nn H; obtain ⟨c9, H⟩ := H
    have yh := eq_true c9
    have Fz := decide_eq_true c9
    try have arU : (9223372036854775807 < dM.size + azT.size) = False := eq_false (Nat.not_lt.2 c9)
    have H' := ak H; clear H
    go_wp2_with (first | (refine RF 14 Kd.string 9 [.string (⟨#[104, 101, 108, 108, 111]⟩ : ByteArray), .string (⟨#[32]⟩ : ByteArray), .string (⟨#[61]⟩ : ByteArray), .string (⟨#[10]⟩ : ByteArray), .string (⟨#[255, 0]⟩ : ByteArray), .string (⟨#[99, 97, 102, 195, 169]⟩ : ByteArray), .string (⟨#[97, 32, 108, 111, 110, 103, 101, 114, 32, 114, 111, 119, 32, 111, 102, 32, 119, 111, 114, 100, 115, 32, 116, 104, 97, 116, 32, 105, 115, 32, 98, 114, 111, 107, 101, 110, 32, 104, 101, 114, 101]⟩ : ByteArray), .string (⟨#[120]⟩ : ByteArray), .string (⟨#[46]⟩ : ByteArray), .string (⟨#[9]⟩ : ByteArray)] akN (dD.one (show Kd.M Kd.string _ _ _ (⟨#[104, 101, 108, 108, 111]⟩ : ByteArray) [.string (⟨#[104, 101, 108, 108, 111]⟩ : ByteArray)] from rfl) (dD.one (show Kd.M Kd.string _ _ _ (⟨#[32]⟩ : ByteArray) [.string (⟨#[32]⟩ : ByteArray)] from rfl) (dD.one (show Kd.M Kd.string _ _ _ (⟨#[61]⟩ : ByteArray) [.string (⟨#[61]⟩ : ByteArray)] from rfl) (dD.one (show Kd.M Kd.string _ _ _ (⟨#[10]⟩ : ByteArray) [.string (⟨#[10]⟩ : ByteArray)] from rfl) (dD.one (show Kd.M Kd.string _ _ _ (⟨#[255, 0]⟩ : ByteArray) [.string (⟨#[255, 0]⟩ : ByteArray)] from rfl) (dD.one (show Kd.M Kd.string _ _ _ (⟨#[99, 97, 102, 195, 169]⟩ : ByteArray) [.string (⟨#[99, 97, 102, 195, 169]⟩ : ByteArray)] from rfl) (dD.one (show Kd.M Kd.string _ _ _ (⟨#[97, 32, 108, 111, 110, 103, 101, 114, 32, 114, 111, 119, 32, 111, 102, 32, 119, 111, 114, 100, 115, 32, 116, 104, 97, 116, 32, 105, 115, 32, 98, 114, 111, 107, 101, 110, 32, 104, 101, 114, 101]⟩ : ByteArray) [.string (⟨#[97, 32, 108, 111, 110, 103, 101, 114, 32, 114, 111, 119, 32, 111, 102, 32, 119, 111, 114, 100, 115, 32, 116, 104, 97, 116, 32, 105, 115, 32, 98, 114, 111, 107, 101, 110, 32, 104, 101, 114, 101]⟩ : ByteArray)] from rfl) (dD.one (show Kd.M Kd.string _ _ _ (⟨#[120]⟩ : ByteArray) [.string (⟨#[120]⟩ : ByteArray)] from rfl) (dD.one (show Kd.M Kd.string _ _ _ (⟨#[46]⟩ : ByteArray) [.string (⟨#[46]⟩ : ByteArray)] from rfl) (dD.one (show Kd.M Kd.string _ _ _ (⟨#[9]⟩ : ByteArray) [.string (⟨#[9]⟩ : ByteArray)] from rfl) (dD.none _ _))))))))))) ?_; intro aHD w10 atV hb; have SX := ak (Kd.aC atV (dI (w := w) (g := g) (row := none) (kh HK.out))); replace HK := ak (aJ.trans (kh HK.out) (aJ.of_below hb g none) (.inl rfl)); replace HB := ak (iC o7 hb); replace HI0 := ak (aK.below oZ hb); clear hb atV; obtain ⟨E_, ES, Uc⟩ := Kd.aV SX.out; subst Uc) | (refine gL 58 15 Tryz.func58 #[.pointer (some ⟨g, 0, none⟩), .slice E_ azS.length ES] ?_; (with_reducible refine (fE.calls w0 ?fU ?iW (cu ((Kd.aH SX.out).2.2)) ((Kd.aH SX.out).2.1) (oh (aK.own_ne HI0.out SX.out (by decide))) A8.out).mono ?_); (case fU => exact oZ); (case iW => exact o7); rintro e w13 ⟨rfl, hi, hb, hk⟩; refine ⟨_, rfl, ?_⟩; replace SX := ki SX hk; replace HK := kt HK hk; replace HB := ak (hb); replace HI0 := ak (hi); clear hb; (try clear hk); (try clear hi)))
    go_roundg k1
    case measure => exact kl
    case rel => exact ⟨_, _, _, rs, rs, H', ⟨kl⟩, ⟨oZ⟩, ⟨kh HK.out⟩, ⟨o7⟩⟩
   ·
    have sD : decide (0 < dV) = false := decide_eq_false c7
    clear c7
    replace H := bd H
    obtain ⟨⟨aHE, atW⟩, A14, H⟩ := H
    (try dsimp only at H)
    replace H := sq H
    rcases H with ⟨wu, Fj, H⟩ | ⟨c15, wu, Fj, H⟩
    ·
     have H' := ak H; clear H
     go_wp2_with (refine gL 57 18 Tryz.func57 #[.pointer (some ⟨g, 0, none⟩), .int .i64 40] ?_; (with_reducible refine (cZ.calls w0 ?fU ?iW A14.out).mono ?_); (case fU => exact oZ); (case iW => exact o7); rintro e w16 ⟨rfl, hi, hb, hk⟩; refine ⟨_, rfl, ?_⟩; replace HK := kt HK hk; replace HB := ak (hb); replace HI0 := ak (hi); clear hb; (try clear hk); (try clear hi))
     go_loopg [3] k1 (fun kq v3 w' => ∃ (kZ : ByteArray), v3 = .string kZ ∧ ah (iI.l1 kq kZ eY atW = some (r1, r2)) ∧ ah (kq ≤ k1) ∧ ah (aK w0 w' g eY atW) ∧ ah (aJ w w' g none) ∧ ah (Below w0.heap.size w0 w'))
     case atStart => exact ⟨_, rs, H', ⟨Nat.le_refl _⟩, ⟨oZ⟩, ⟨kh HK.out⟩, ⟨o7⟩⟩
     case round =>
      clear H'
      try clear c7
      try clear sD
      try clear c15
      try clear wu
      try clear Fj
      obtain ⟨kZ, rfl, HA, Zw, HI0, HK, HB⟩ := hrel
      cases gk with
      | zero => exact zz HA.out
      | succ k2 =>
       obtain ⟨H⟩ := HA
       simp only [iI.l1] at H
       replace H := sp H
       rcases H with ⟨c17, H⟩ | ⟨c17, H⟩
       ·
        have tJ := decide_eq_true c17
        have NM : decide (kZ.size ≤ 300) = true := decide_eq_true (by omega)
        clear c17
        replace H := nn H; obtain ⟨c18, H⟩ := H
        have zV := eq_true c18
        have PO := decide_eq_true c18
        try have ajw : (9223372036854775807 < kZ.size + 10) = False := eq_false (Nat.not_lt.2 c18)
        have H' := ak H; clear H
        go_wp2
        go_roundg k2
        case measure => exact kl
        case rel => exact ⟨_, rs, H', ⟨kl⟩, ⟨oZ⟩, ⟨kh HK.out⟩, ⟨o7⟩⟩
       ·
        have tJ := decide_eq_false c17
        have NM : decide (kZ.size ≤ 300) = false := decide_eq_false (by omega)
        clear c17
        obtain ⟨rfl, rfl⟩ := s2 H
        go_wp2
        go_ret
        exact ⟨er, oZ, o7, kh HK.out⟩
    ·
     obtain ⟨rfl, rfl⟩ := s2 H
     go_wp2_with (refine gL 57 18 Tryz.func57 #[.pointer (some ⟨g, 0, none⟩), .int .i64 40] ?_; (with_reducible refine (cZ.calls w0 ?fU ?iW A14.out).mono ?_); (case fU => exact oZ); (case iW => exact o7); rintro e ZN ⟨rfl, hi, hb, hk⟩; refine ⟨_, rfl, ?_⟩; replace HK := kt HK hk; replace HB := ak (hb); replace HI0 := ak (hi); clear hb; (try clear hk); (try clear hi))
     go_ret
     exact ⟨er, oZ, o7, kh HK.out⟩
def uZ.f (k : Nat) (eY : List Int) (kE : Int) : Option (ByteArray × ByteArray × Int) := (fE.f k eY kE (([(⟨#[84, 111]⟩ : ByteArray), (⟨#[70, 114, 111, 109]⟩ : ByteArray), (⟨#[83, 117, 98, 106, 101, 99, 116]⟩ : ByteArray), (⟨#[88, 45, 89]⟩ : ByteArray), (⟨#[82, 101, 99, 101, 105, 118, 101, 100]⟩ : ByteArray), (⟨#[116, 111]⟩ : ByteArray), (⟨#[68, 97, 116, 101]⟩ : ByteArray)] : List ByteArray))).bind fun akO => ((fE.f k eY akO.2 (([(⟨#[]⟩ : ByteArray), (⟨#[120]⟩ : ByteArray), (⟨#[97, 32, 98]⟩ : ByteArray), (⟨#[104, 101, 108, 108, 111, 32, 116, 104, 101, 114, 101, 44, 32, 116, 104, 105, 115, 32, 105, 115, 32, 97, 32, 108, 111, 110, 103, 101, 114, 32, 118, 97, 108, 117, 101, 32, 116, 104, 97, 116, 32, 105, 115, 32, 98, 114, 111, 107, 101, 110]⟩ : ByteArray), (⟨#[97, 97, 97, 97, 97, 97, 97, 97, 97, 97, 97, 97, 97, 97, 97, 97, 97, 97, 97, 97, 97, 97, 97, 97, 97, 97, 97, 97, 97, 97, 97, 97, 97, 97, 97, 97, 97, 97, 97, 97, 97, 97, 97, 97, 97, 97, 97, 97, 97, 97, 97, 32, 98]⟩ : ByteArray), (⟨#[116, 119, 111, 32, 32, 115, 112, 97, 99, 101, 115, 32, 115, 116, 97, 121, 32, 32, 116, 111, 103, 101, 116, 104, 101, 114, 32, 105, 110, 32, 104, 101, 114, 101, 44, 32, 97, 110, 100, 32, 115, 111, 32, 100, 111, 32, 116, 104, 101, 115, 101, 32, 32, 111, 110, 101, 115]⟩ : ByteArray), (⟨#[97, 58, 98]⟩ : ByteArray), (⟨#[111, 110, 101, 32, 116, 119, 111, 32, 116, 104, 114, 101, 101, 32, 102, 111, 117, 114, 32, 102, 105, 118, 101, 32, 115, 105, 120, 32, 115, 101, 118, 101, 110, 32, 101, 105, 103, 104, 116, 32, 110, 105, 110, 101, 32, 116, 101, 110, 32, 101, 108, 101, 118, 101, 110]⟩ : ByteArray)] : List ByteArray))).bind fun akP => (some (akO.1, akP.1, akP.2)))
theorem uZ.calls {k g : Nat} {eY : List Int} {kE r3 : Int} {r1 r2 : ByteArray} {w : World} (w0 : World) (hI : aK w0 w g eY kE) (hB : Below w0.heap.size w0 w) (h : uZ.f k eY kE = some (r1, r2, r3)) :
  Calls Tryz.prog 168 #[.pointer (some ⟨g, 0, none⟩)] w fun e w' => e = .returned (.agg #[.string r1, .string r2]) ∧ aK w0 w' g eY r3 ∧ Below w0.heap.size w0 w' ∧ aJ w w' g none := by
 have DU := Tryz.underlying69
 have HI0 := ak hI
 have HK := ak (aJ.refl w g none)
 have HL := ak hB.size
 clear hI
 have HW0 := ak hB.size
 have HB := ak hB
 clear hB
 unfold uZ.f at h; have H := h
 clear h
 obtain ⟨azU, akQ⟩ := nm ([(⟨#[84, 111]⟩ : ByteArray), (⟨#[70, 114, 111, 109]⟩ : ByteArray), (⟨#[83, 117, 98, 106, 101, 99, 116]⟩ : ByteArray), (⟨#[88, 45, 89]⟩ : ByteArray), (⟨#[82, 101, 99, 101, 105, 118, 101, 100]⟩ : ByteArray), (⟨#[116, 111]⟩ : ByteArray), (⟨#[68, 97, 116, 101]⟩ : ByteArray)] : List ByteArray)
 rw [← akQ.out] at H
 replace H := bd H
 obtain ⟨⟨azV, aHF⟩, A2, H⟩ := H
 (try dsimp only at H)
 obtain ⟨azW, akR⟩ := nm ([(⟨#[]⟩ : ByteArray), (⟨#[120]⟩ : ByteArray), (⟨#[97, 32, 98]⟩ : ByteArray), (⟨#[104, 101, 108, 108, 111, 32, 116, 104, 101, 114, 101, 44, 32, 116, 104, 105, 115, 32, 105, 115, 32, 97, 32, 108, 111, 110, 103, 101, 114, 32, 118, 97, 108, 117, 101, 32, 116, 104, 97, 116, 32, 105, 115, 32, 98, 114, 111, 107, 101, 110]⟩ : ByteArray), (⟨#[97, 97, 97, 97, 97, 97, 97, 97, 97, 97, 97, 97, 97, 97, 97, 97, 97, 97, 97, 97, 97, 97, 97, 97, 97, 97, 97, 97, 97, 97, 97, 97, 97, 97, 97, 97, 97, 97, 97, 97, 97, 97, 97, 97, 97, 97, 97, 97, 97, 97, 97, 32, 98]⟩ : ByteArray), (⟨#[116, 119, 111, 32, 32, 115, 112, 97, 99, 101, 115, 32, 115, 116, 97, 121, 32, 32, 116, 111, 103, 101, 116, 104, 101, 114, 32, 105, 110, 32, 104, 101, 114, 101, 44, 32, 97, 110, 100, 32, 115, 111, 32, 100, 111, 32, 116, 104, 101, 115, 101, 32, 32, 111, 110, 101, 115]⟩ : ByteArray), (⟨#[97, 58, 98]⟩ : ByteArray), (⟨#[111, 110, 101, 32, 116, 119, 111, 32, 116, 104, 114, 101, 101, 32, 102, 111, 117, 114, 32, 102, 105, 118, 101, 32, 115, 105, 120, 32, 115, 101, 118, 101, 110, 32, 101, 105, 103, 104, 116, 32, 110, 105, 110, 101, 32, 116, 101, 110, 32, 101, 108, 101, 118, 101, 110]⟩ : ByteArray)] : List ByteArray)
 rw [← akR.out] at H
 replace H := bd H
 obtain ⟨⟨azX, aHG⟩, A3, H⟩ := H
 (try dsimp only at H)
 obtain ⟨rfl, rfl, rfl⟩ := s3 H
 go_enter Tryz.func168, Tryz.ntmps168
 go_wp2_with (first | (refine bS HI0 HK HB HW0 2 #[.string (⟨#[]⟩ : ByteArray), .string (⟨#[]⟩ : ByteArray)] 69 ?_; clear HI0 HK HB; intro atX w4 Kv aC3 aC4 ah8 U0 hg hb HI0 HK HB; clear hb hg) | (refine RF 4 Kd.string 9 [.string (⟨#[84, 111]⟩ : ByteArray), .string (⟨#[70, 114, 111, 109]⟩ : ByteArray), .string (⟨#[83, 117, 98, 106, 101, 99, 116]⟩ : ByteArray), .string (⟨#[88, 45, 89]⟩ : ByteArray), .string (⟨#[82, 101, 99, 101, 105, 118, 101, 100]⟩ : ByteArray), .string (⟨#[116, 111]⟩ : ByteArray), .string (⟨#[68, 97, 116, 101]⟩ : ByteArray)] akQ (dD.one (show Kd.M Kd.string _ _ _ (⟨#[84, 111]⟩ : ByteArray) [.string (⟨#[84, 111]⟩ : ByteArray)] from rfl) (dD.one (show Kd.M Kd.string _ _ _ (⟨#[70, 114, 111, 109]⟩ : ByteArray) [.string (⟨#[70, 114, 111, 109]⟩ : ByteArray)] from rfl) (dD.one (show Kd.M Kd.string _ _ _ (⟨#[83, 117, 98, 106, 101, 99, 116]⟩ : ByteArray) [.string (⟨#[83, 117, 98, 106, 101, 99, 116]⟩ : ByteArray)] from rfl) (dD.one (show Kd.M Kd.string _ _ _ (⟨#[88, 45, 89]⟩ : ByteArray) [.string (⟨#[88, 45, 89]⟩ : ByteArray)] from rfl) (dD.one (show Kd.M Kd.string _ _ _ (⟨#[82, 101, 99, 101, 105, 118, 101, 100]⟩ : ByteArray) [.string (⟨#[82, 101, 99, 101, 105, 118, 101, 100]⟩ : ByteArray)] from rfl) (dD.one (show Kd.M Kd.string _ _ _ (⟨#[116, 111]⟩ : ByteArray) [.string (⟨#[116, 111]⟩ : ByteArray)] from rfl) (dD.one (show Kd.M Kd.string _ _ _ (⟨#[68, 97, 116, 101]⟩ : ByteArray) [.string (⟨#[68, 97, 116, 101]⟩ : ByteArray)] from rfl) (dD.none _ _)))))))) ?_; intro aHH w5 ho6 hb; have FI := ak (Kd.aC ho6 (dI (w := w) (g := g) (row := none) (kh HK.out))); replace Kv := kb Kv hb; replace HK := ak (aJ.trans (kh HK.out) (aJ.of_below hb g none) (.inl rfl)); replace HB := ak (iC o7 hb); replace HI0 := ak (aK.below oZ hb); clear hb ho6; obtain ⟨Ao7, co7, eo7⟩ := Kd.aV FI.out; subst eo7) | (refine gL 58 5 Tryz.func58 #[.pointer (some ⟨g, 0, none⟩), .slice Ao7 azU.length co7] ?_; (with_reducible refine (fE.calls w0 ?fU ?iW (cu ((Kd.aH FI.out).2.2)) ((Kd.aH FI.out).2.1) (oh (aK.own_ne HI0.out FI.out (by decide))) A2.out).mono ?_); (case fU => exact oZ); (case iW => exact o7); rintro e w8 ⟨rfl, hi, hb, hk⟩; refine ⟨_, rfl, ?_⟩; replace Kv := kc Kv hk U0; replace FI := ki FI hk; replace HK := kt HK hk; replace HB := ak (hb); replace HI0 := ak (hi); clear hb; (try clear hk); (try clear hi)) | (refine RF 7 Kd.string 9 [.string (⟨#[]⟩ : ByteArray), .string (⟨#[120]⟩ : ByteArray), .string (⟨#[97, 32, 98]⟩ : ByteArray), .string (⟨#[104, 101, 108, 108, 111, 32, 116, 104, 101, 114, 101, 44, 32, 116, 104, 105, 115, 32, 105, 115, 32, 97, 32, 108, 111, 110, 103, 101, 114, 32, 118, 97, 108, 117, 101, 32, 116, 104, 97, 116, 32, 105, 115, 32, 98, 114, 111, 107, 101, 110]⟩ : ByteArray), .string (⟨#[97, 97, 97, 97, 97, 97, 97, 97, 97, 97, 97, 97, 97, 97, 97, 97, 97, 97, 97, 97, 97, 97, 97, 97, 97, 97, 97, 97, 97, 97, 97, 97, 97, 97, 97, 97, 97, 97, 97, 97, 97, 97, 97, 97, 97, 97, 97, 97, 97, 97, 97, 32, 98]⟩ : ByteArray), .string (⟨#[116, 119, 111, 32, 32, 115, 112, 97, 99, 101, 115, 32, 115, 116, 97, 121, 32, 32, 116, 111, 103, 101, 116, 104, 101, 114, 32, 105, 110, 32, 104, 101, 114, 101, 44, 32, 97, 110, 100, 32, 115, 111, 32, 100, 111, 32, 116, 104, 101, 115, 101, 32, 32, 111, 110, 101, 115]⟩ : ByteArray), .string (⟨#[97, 58, 98]⟩ : ByteArray), .string (⟨#[111, 110, 101, 32, 116, 119, 111, 32, 116, 104, 114, 101, 101, 32, 102, 111, 117, 114, 32, 102, 105, 118, 101, 32, 115, 105, 120, 32, 115, 101, 118, 101, 110, 32, 101, 105, 103, 104, 116, 32, 110, 105, 110, 101, 32, 116, 101, 110, 32, 101, 108, 101, 118, 101, 110]⟩ : ByteArray)] akR (dD.one (show Kd.M Kd.string _ _ _ (⟨#[]⟩ : ByteArray) [.string (⟨#[]⟩ : ByteArray)] from rfl) (dD.one (show Kd.M Kd.string _ _ _ (⟨#[120]⟩ : ByteArray) [.string (⟨#[120]⟩ : ByteArray)] from rfl) (dD.one (show Kd.M Kd.string _ _ _ (⟨#[97, 32, 98]⟩ : ByteArray) [.string (⟨#[97, 32, 98]⟩ : ByteArray)] from rfl) (dD.one (show Kd.M Kd.string _ _ _ (⟨#[104, 101, 108, 108, 111, 32, 116, 104, 101, 114, 101, 44, 32, 116, 104, 105, 115, 32, 105, 115, 32, 97, 32, 108, 111, 110, 103, 101, 114, 32, 118, 97, 108, 117, 101, 32, 116, 104, 97, 116, 32, 105, 115, 32, 98, 114, 111, 107, 101, 110]⟩ : ByteArray) [.string (⟨#[104, 101, 108, 108, 111, 32, 116, 104, 101, 114, 101, 44, 32, 116, 104, 105, 115, 32, 105, 115, 32, 97, 32, 108, 111, 110, 103, 101, 114, 32, 118, 97, 108, 117, 101, 32, 116, 104, 97, 116, 32, 105, 115, 32, 98, 114, 111, 107, 101, 110]⟩ : ByteArray)] from rfl) (dD.one (show Kd.M Kd.string _ _ _ (⟨#[97, 97, 97, 97, 97, 97, 97, 97, 97, 97, 97, 97, 97, 97, 97, 97, 97, 97, 97, 97, 97, 97, 97, 97, 97, 97, 97, 97, 97, 97, 97, 97, 97, 97, 97, 97, 97, 97, 97, 97, 97, 97, 97, 97, 97, 97, 97, 97, 97, 97, 97, 32, 98]⟩ : ByteArray) [.string (⟨#[97, 97, 97, 97, 97, 97, 97, 97, 97, 97, 97, 97, 97, 97, 97, 97, 97, 97, 97, 97, 97, 97, 97, 97, 97, 97, 97, 97, 97, 97, 97, 97, 97, 97, 97, 97, 97, 97, 97, 97, 97, 97, 97, 97, 97, 97, 97, 97, 97, 97, 97, 32, 98]⟩ : ByteArray)] from rfl) (dD.one (show Kd.M Kd.string _ _ _ (⟨#[116, 119, 111, 32, 32, 115, 112, 97, 99, 101, 115, 32, 115, 116, 97, 121, 32, 32, 116, 111, 103, 101, 116, 104, 101, 114, 32, 105, 110, 32, 104, 101, 114, 101, 44, 32, 97, 110, 100, 32, 115, 111, 32, 100, 111, 32, 116, 104, 101, 115, 101, 32, 32, 111, 110, 101, 115]⟩ : ByteArray) [.string (⟨#[116, 119, 111, 32, 32, 115, 112, 97, 99, 101, 115, 32, 115, 116, 97, 121, 32, 32, 116, 111, 103, 101, 116, 104, 101, 114, 32, 105, 110, 32, 104, 101, 114, 101, 44, 32, 97, 110, 100, 32, 115, 111, 32, 100, 111, 32, 116, 104, 101, 115, 101, 32, 32, 111, 110, 101, 115]⟩ : ByteArray)] from rfl) (dD.one (show Kd.M Kd.string _ _ _ (⟨#[97, 58, 98]⟩ : ByteArray) [.string (⟨#[97, 58, 98]⟩ : ByteArray)] from rfl) (dD.one (show Kd.M Kd.string _ _ _ (⟨#[111, 110, 101, 32, 116, 119, 111, 32, 116, 104, 114, 101, 101, 32, 102, 111, 117, 114, 32, 102, 105, 118, 101, 32, 115, 105, 120, 32, 115, 101, 118, 101, 110, 32, 101, 105, 103, 104, 116, 32, 110, 105, 110, 101, 32, 116, 101, 110, 32, 101, 108, 101, 118, 101, 110]⟩ : ByteArray) [.string (⟨#[111, 110, 101, 32, 116, 119, 111, 32, 116, 104, 114, 101, 101, 32, 102, 111, 117, 114, 32, 102, 105, 118, 101, 32, 115, 105, 120, 32, 115, 101, 118, 101, 110, 32, 101, 105, 103, 104, 116, 32, 110, 105, 110, 101, 32, 116, 101, 110, 32, 101, 108, 101, 118, 101, 110]⟩ : ByteArray)] from rfl) (dD.none _ _))))))))) ?_; intro aHI w9 OA hb; have SY := ak (Kd.aC (Kd.gK OA (Kd.kU (ur FI.out))) (dI (w := w) (g := g) (row := none) (kh HK.out))); replace FI := ak (Kd.fP (ur FI.out) (Kd.fO OA) hb); replace Kv := kb Kv hb; replace HK := ak (aJ.trans (kh HK.out) (aJ.of_below hb g none) (.inl rfl)); replace HB := ak (iC o7 hb); replace HI0 := ak (aK.below oZ hb); clear hb OA; obtain ⟨AA, y9, P7⟩ := Kd.aV SY.out; subst P7) | (refine gL 58 8 Tryz.func58 #[.pointer (some ⟨g, 0, none⟩), .slice AA azW.length y9] ?_; (with_reducible refine (fE.calls w0 ?fU ?iW (cu ((Kd.aH SY.out).2.2)) ((Kd.aH SY.out).2.1) (oh (aK.own_ne HI0.out SY.out (by decide))) A3.out).mono ?_); (case fU => exact oZ); (case iW => exact o7); rintro e w12 ⟨rfl, hi, hb, hk⟩; refine ⟨_, rfl, ?_⟩; replace Kv := kc Kv hk U0; replace FI := ki FI hk; replace SY := ki SY hk; replace HK := kt HK hk; replace HB := ak (hb); replace HI0 := ak (hi); clear hb; (try clear hk); (try clear hi); have ajM := U0.out; have ajN := ah8.out; have z14 := zQ Kv.out))
 refine bodyPost_ret (results_cell_row rfl _ _ atX 69 #[.string azV, .string azX] (0, 0) _ rfl bq Tryz.underlying69 rfl (by kernel_rfl)) rfl ?_
 exact ⟨er, oZ, o7, kh HK.out⟩
def lI.l0 : Nat → List (gU) → Int → List Int → Int → Option ((List (gU)) × Int)
 | 0, _, _, _, _ => none
 | k + 1, x3, x4, x1000, oQ => if x4 > 0 then ((uZ.f k x1000 oQ).bind fun aeE => (if x3.length < 4398046511104 then (lI.l0 k (x3 ++ [(⟨aeE.1, aeE.2.1⟩ : gU)]) (wrap64 (x4 - 1)) x1000 aeE.2.2) else (none))) else (some (x3, oQ))
def lI.f (k : Nat) (eY : List Int) (kE : Int) : Option ((List (gU)) × Int) := (ku.f k eY kE (([2, 3, 1, 0, 4] : List Int))).bind fun akS => (lI.l0 k (([] : List (gU))) akS.1 eY akS.2)
theorem lI.calls {k g : Nat} {eY : List Int} {kE r2 : Int} {r1 : List (gU)} {w : World} (w0 : World) (hI : aK w0 w g eY kE) (hB : Below w0.heap.size w0 w) (h : lI.f k eY kE = some (r1, r2)) :
  Calls Tryz.prog 144 #[.pointer (some ⟨g, 0, none⟩)] w fun e w' => ∃ ql : Value, e = .returned (ql) ∧ Kd.R qj 69 w' w.heap.size (fun _ => True) ql r1 ∧ aK w0 w' g eY r2 ∧ Below w0.heap.size w0 w' ∧ aJ w w' g none := by
 have HI0 := ak hI
 have HK := ak (aJ.refl w g none)
 have HL := ak hB.size
 clear hI
 have HW0 := ak hB.size
 have HB := ak hB
 clear hB
 unfold lI.f at h; have H := h
 clear h
 obtain ⟨aHJ, akT⟩ := nm ([] : List (gU))
 rw [← akT.out] at H
 obtain ⟨azY, akU⟩ := nm ([2, 3, 1, 0, 4] : List Int)
 rw [← akU.out] at H
 replace H := bd H
 obtain ⟨⟨aHK, aHL⟩, A2, H⟩ := H
 (try dsimp only at H)
 have H' := ak H; clear H
 go_enter Tryz.func144, Tryz.ntmps144
 go_wp2_with (first | (refine H7 5 qj 69 akT ?_; intro aHM w3 SN hb; have WU := ak (Kd.aC SN (dI (w := w) (g := g) (row := none) (kh HK.out))); replace HK := ak (aJ.trans (kh HK.out) (aJ.of_below hb g none) (.inl rfl)); replace HB := ak (iC o7 hb); replace HI0 := ak (aK.below oZ hb); clear hb SN) | (refine RF 7 (Kd.int .i64) 3 [.int .i64 2, .int .i64 3, .int .i64 1, .int .i64 0, .int .i64 4] akU (dD.one (show Kd.M (Kd.int .i64) _ _ _ 2 [.int .i64 2] from rfl) (dD.one (show Kd.M (Kd.int .i64) _ _ _ 3 [.int .i64 3] from rfl) (dD.one (show Kd.M (Kd.int .i64) _ _ _ 1 [.int .i64 1] from rfl) (dD.one (show Kd.M (Kd.int .i64) _ _ _ 0 [.int .i64 0] from rfl) (dD.one (show Kd.M (Kd.int .i64) _ _ _ 4 [.int .i64 4] from rfl) (dD.none _ _)))))) ?_; intro aHN w5 ho6 hb; have S9 := ak (Kd.aC ho6 (dI (w := w) (g := g) (row := none) (kh HK.out))); replace WU := rb WU hb; replace HK := ak (aJ.trans (kh HK.out) (aJ.of_below hb g none) (.inl rfl)); replace HB := ak (iC o7 hb); replace HI0 := ak (aK.below oZ hb); clear hb ho6; obtain ⟨Ao7, co7, eo7⟩ := Kd.aV S9.out; subst eo7) | (refine gL 97 8 Tryz.func97 #[.pointer (some ⟨g, 0, none⟩), .slice Ao7 azY.length co7] ?_; (with_reducible refine (ku.calls w0 ?fU ?iW (cu ((Kd.aH S9.out).2.2)) ((Kd.aH S9.out).2.1) (oh (aK.own_ne HI0.out S9.out (by decide))) A2.out).mono ?_); (case fU => exact oZ); (case iW => exact o7); rintro e w8 ⟨rfl, hi, hb, hk⟩; refine ⟨_, rfl, ?_⟩; replace WU := ki WU hk; replace S9 := ki S9 hk; replace HK := kt HK hk; replace HB := ak (hb); replace HI0 := ak (hi); clear hb; (try clear hk); (try clear hi)))
 go_loopg [3, 4] k (fun kq v3 v4 w' => ∃ (dM : List (gU)) (dV : Int) (xU : Int), v4 = .int .i64 dV ∧ ah (lI.l0 kq dM dV eY xU = some (r1, r2)) ∧ ah (kq ≤ k) ∧ ah (Kd.R qj 69 w' w.heap.size (fun _ => True) v3 dM) ∧ ah (aK w0 w' g eY xU) ∧ ah (aJ w w' g none) ∧ ah (Below w0.heap.size w0 w'))
 case atStart => exact ⟨_, _, _, rs, H', ⟨Nat.le_refl _⟩, ⟨ur WU.out⟩, ⟨oZ⟩, ⟨kh HK.out⟩, ⟨o7⟩⟩
 case round =>
  clear H'
  obtain ⟨dM, dV, xU, rfl, HA, xG, oV, HI0, HK, HB⟩ := hrel
  cases gk with
  | zero => exact zz HA.out
  | succ k1 =>
   obtain ⟨H⟩ := HA
   simp only [lI.l0] at H
   replace H := sp H
   rcases H with ⟨c9, H⟩ | ⟨c9, H⟩
   ·
    have yh : decide (0 < dV) = true := decide_eq_true c9
    clear c9
    replace H := bd H
    obtain ⟨⟨ah9, ah_, aHO⟩, VN, H⟩ := H
    (try dsimp only at H)
    replace H := nl H; obtain ⟨Qa, H⟩ := H
    obtain ⟨aHP, akV⟩ := nm (dM ++ [(⟨ah9, ah_⟩ : gU)])
    rw [← akV.out] at H
    have H' := ak H; clear H
    go_wp2_with (first | (refine gL 168 15 Tryz.func168 #[.pointer (some ⟨g, 0, none⟩)] ?_; (with_reducible refine (uZ.calls w0 ?fU ?iW VN.out).mono ?_); (case fU => exact oZ); (case iW => exact o7); rintro e w12 ⟨rfl, hi, hb, hk⟩; refine ⟨_, rfl, ?_⟩; replace oV := ki oV hk; replace HK := kt HK hk; replace HB := ak (hb); replace HI0 := ak (hi); clear hb; (try clear hk); (try clear hi)) | ((with_reducible refine eu (b := .append) (xs := #[.tmp 13, .tmp 16]) rfl ?_); at_builtin; refine Kd.qc qj w.heap.size rfl (.tmp 13) (.tmp 16) 25 69 (.agg #[(.string ⟨#[]⟩), (.string ⟨#[]⟩)]) 32 rfl Tryz.underlying25 Dc rfl (by decide) (by omega) u3 dM (⟨ah9, ah_⟩ : gU) [.string ah9, .string ah_] (fun _ => True) (fun _ => False) rfl rfl ?aP (fun _ hk => hk.elim) ?aF ?aO (Below.refl _ _) ?aS ?aL ?_; (case aP => exact wM _ _ _ (⟨ah9, ah_⟩ : gU)); (case aF => exact (fun _ _ => trivial)); (case aO => exact (ur oV.out)); (case aS => exact (dI (w := w) (g := g) (row := none) (kh HK.out))); (case aL => have := Qa.out; omega); intro aHQ w13 ho hb hg hat; rw [← akV.out] at ho; have atY := ak (ho); replace HB := ak (vU o7 HL.out hb); replace HI0 := ak (aK.grown oZ hg (aK.own_ne HI0.out oV.out (by decide))); replace HK := ak (aJ.trans (kh HK.out) (aJ.zo hg g) (Kd.GX oV.out)); clear ho hb hg hat oV))
    go_roundg k1
    case measure => exact kl
    case rel => exact ⟨_, _, _, rs, H', ⟨kl⟩, ⟨ur atY.out⟩, ⟨oZ⟩, ⟨kh HK.out⟩, ⟨o7⟩⟩
   ·
    have yh : decide (0 < dV) = false := decide_eq_false c9
    clear c9
    obtain ⟨rfl, rfl⟩ := s2 H
    go_wp2
    go_ret
    exact ⟨_, er, ur oV.out, oZ, o7, kh HK.out⟩
end Go.Proofs.YtncdadcmghglkaaGreatDoor.PFnKidValid
