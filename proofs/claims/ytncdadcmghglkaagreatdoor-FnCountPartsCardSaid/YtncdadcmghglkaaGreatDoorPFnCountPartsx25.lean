/- Printed walks; conditions: those in each statement. -/
import Derived.Test.YtncdadcmghglkaaGreatDoorVFnCountPartsQt
import Derived.Test.YtncdadcmghglkaaGreatDoorVFnCountPartsYt
import Derived.Test.YtncdadcmghglkaaGreatDoorPFnCountPartsx0
import Derived.Test.YtncdadcmghglkaaGreatDoorPFnCountPartsx11
import Derived.Test.YtncdadcmghglkaaGreatDoorPFnCountPartsx18
import Derived.Test.YtncdadcmghglkaaGreatDoorPFnCountPartsx20
import Derived.Test.YtncdadcmghglkaaGreatDoorPFnCountPartsx21
import Derived.Test.YtncdadcmghglkaaGreatDoorPFnCountPartsx24
-- short
-- dense
-- sq
-- sq2
namespace Go.Proofs.YtncdadcmghglkaaGreatDoor.PFnCountParts
open Go.RowKit Go.Proofs.YtncdadcmghglkaaGreatDoor.X Go.Proofs.YtncdadcmghglkaaGreatDoorW.bI Go.Proofs.YtncdadcmghglkaaGreatDoorW.gI Go.Proofs.YtncdadcmghglkaaGreatDoorW.iL
attribute [local go_sem] kN kP mF mG jB jC kQ kR   -- for this text's walks alone
set_option linter.unusedVariables false
set_option maxHeartbeats 8000000
set_option maxRecDepth 100000
set_option linter.unusedSimpArgs false
def gq.f (k : Nat) (a0 : ByteArray) (a1 : ByteArray) : Option ((List (gY)) × List ByteArray × (List (nG)) × Bool) := (bJ.f k a0).bind fun adR => ((lV.f k a1).bind fun VO => ((jM.f k a1 VO.1).bind fun adS => (if adR.2 = true then (if VO.2 = true then (if adS.2 = true then ((ji.f k (⟨#[83, 117, 98, 106, 101, 99, 116]⟩ : ByteArray) adR.1).bind fun asb => (if asb = true then ((iJ.f k adS.1).bind fun asc => (if asc = true then ((some (([(⟨#[55, 98, 105, 116]⟩ : ByteArray), (⟨#[113, 117, 111, 116, 101, 100, 45, 112, 114, 105, 110, 116, 97, 98, 108, 101]⟩ : ByteArray), (⟨#[98, 97, 115, 101, 54, 52]⟩ : ByteArray)] : List ByteArray) : List ByteArray)).bind fun zN => (if 0 ≤ VO.1 then (if VO.1 < (zN.length : Int) then (some ((([(⟨(⟨#[83, 117, 98, 106, 101, 99, 116]⟩ : ByteArray), adR.1⟩ : gY), (⟨(⟨#[67, 111, 110, 116, 101, 110, 116, 45, 84, 121, 112, 101]⟩ : ByteArray), (⟨#[116, 101, 120, 116, 47, 112, 108, 97, 105, 110, 59, 32, 99, 104, 97, 114, 115, 101, 116, 61, 117, 116, 102, 45, 56]⟩ : ByteArray)⟩ : gY), (⟨(⟨#[67, 111, 110, 116, 101, 110, 116, 45, 84, 114, 97, 110, 115, 102, 101, 114, 45, 69, 110, 99, 111, 100, 105, 110, 103]⟩ : ByteArray), o8 ByteArray.empty zN VO.1⟩ : gY)] : List (gY))), adS.1, ([] : List (nG)), true)) else (none)) else (none))) else (some (([] : List (gY)), ([] : List ByteArray), ([] : List (nG)), false)))) else (some (([] : List (gY)), ([] : List ByteArray), ([] : List (nG)), false)))) else (some (([] : List (gY)), ([] : List ByteArray), ([] : List (nG)), false))) else (some (([] : List (gY)), ([] : List ByteArray), ([] : List (nG)), false))) else (some (([] : List (gY)), ([] : List ByteArray), ([] : List (nG)), false)))))
def gq.T8 : Bool × List (List Nat × List Nat) := (true, [([], []), ([], []), ([], []), ([], []), ([2, 3], [2, 3]), ([4], [4]), ([5], [5]), ([0, 1, 6], [0, 1, 6]), ([7], [7]), ([], []), ([9, 8, 0, 1, 2, 3, 4, 5, 6, 7, 8, 9], [8, 9])])
def gq.B8 : List Nat := [0, 0, 0, 0, 12, 28, 60, 127, 255, 0, 1023]
theorem gq.abC : sJ .any (opsOf Tryz.f167 8) = gq.T8 := by kernel_rfl
theorem gq.Rj : nV gq.T8.2 gq.B8 = true := by kernel_rfl
theorem gq.calls {k : Nat} {a0 a1 : ByteArray} {r1 : List (gY)} {r2 : List ByteArray} {r3 : List (nG)} {r4 : Bool} {w : World} (h : gq.f k a0 a1 = some (r1, r2, r3, r4)) :
  Calls Tryz.prog 167 #[.string a0, .string a1] w fun e w' => ∃ qj Dq EK : Value, e = .returned (.tuple #[.agg #[qj, Dq, EK], .bool r4]) ∧ Kd.R qJ 69 w' w.heap.size (fun _ => True) qj r1 ∧ Kd.R Kd.string 9 w' w.heap.size (fun _ => True) Dq r2 ∧ Kd.R k28 28 w' w.heap.size (fun k_ => some k_ ≠ (qj : Value).ownBlock ∧ some k_ ≠ (Dq : Value).ownBlock) EK r3 ∧ Below w.heap.size w w' := by
 have CG := Tryz.underlying28
 have Dt := Tryz.underlying69
 have HB := ak (Below.refl w.heap.size w)
 unfold gq.f at h; have H := h
 clear h
 replace H := bd H
 obtain ⟨⟨wu, aFR⟩, A3, H⟩ := H
 (try dsimp only at H)
 replace H := bd H
 obtain ⟨⟨CX, aFS⟩, A4, H⟩ := H
 (try dsimp only at H)
 replace H := bd H
 obtain ⟨⟨JB, aFT⟩, A5, H⟩ := H
 (try dsimp only at H)
 replace H := sb H
 rcases H with ⟨rfl, H⟩ | ⟨rfl, H⟩
 ·
  replace H := sb H
  rcases H with ⟨rfl, H⟩ | ⟨rfl, H⟩
  ·
   replace H := sb H
   rcases H with ⟨rfl, H⟩ | ⟨rfl, H⟩
   ·
    replace H := bd H; obtain ⟨asb, A9, H⟩ := H; replace H := sb H
    rcases H with ⟨rfl, H⟩ | ⟨rfl, H⟩
    ·
     replace H := bd H; obtain ⟨asc, YJ, H⟩ := H; replace H := sb H
     rcases H with ⟨rfl, H⟩ | ⟨rfl, H⟩
     ·
      replace H := ny H
      obtain ⟨zN, ase, H⟩ := H
      replace H := oM H; obtain ⟨vS, H⟩ := H; replace H := oM H; obtain ⟨tu, H⟩ := H
      obtain ⟨NR, VP⟩ := nm ([(⟨(⟨#[83, 117, 98, 106, 101, 99, 116]⟩ : ByteArray), wu⟩ : gY), (⟨(⟨#[67, 111, 110, 116, 101, 110, 116, 45, 84, 121, 112, 101]⟩ : ByteArray), (⟨#[116, 101, 120, 116, 47, 112, 108, 97, 105, 110, 59, 32, 99, 104, 97, 114, 115, 101, 116, 61, 117, 116, 102, 45, 56]⟩ : ByteArray)⟩ : gY), (⟨(⟨#[67, 111, 110, 116, 101, 110, 116, 45, 84, 114, 97, 110, 115, 102, 101, 114, 45, 69, 110, 99, 111, 100, 105, 110, 103]⟩ : ByteArray), o8 ByteArray.empty zN CX⟩ : gY)] : List (gY))
      rw [← VP.out] at H
      obtain ⟨rfl, rfl, rfl, rfl⟩ := s4 H
      go_enter Tryz.func167, Tryz.ntmps167
      try go_wp2_with (first | (refine bX HB 4 #[.slice none 0 0, .slice none 0 0, .slice none 0 0] 28 ?_; intro vU w15 dX VQ hb; replace HB := bs HB hb; clear hb) | (refine gB Tryz.func194 (bJ.calls A3.out) ?_; intro w16 hb; replace dX := kb dX hb; replace HB := bz HB hb; clear hb) | (refine gB Tryz.func195 (lV.calls A4.out) ?_; intro w17 hb; replace dX := kb dX hb; replace HB := bz HB hb; clear hb) | (refine gV Tryz.func196 (jM.calls A5.out) ?_; rintro adT w18 ⟨ho0, hb⟩; have kT := ak (Kd.aA ho0 (aj bb)); replace dX := kb dX hb; replace HB := bz HB hb; clear hb; (try clear ho0)) | (refine bY HB 12 #[.string (⟨#[]⟩ : ByteArray), .string (⟨#[]⟩ : ByteArray)] 69 ?_; intro nY Xq jX VR hg hb; have kH := AZ dX hg; have sQ := A_ dX hg; replace kT := rb kT hb; replace dX := kb dX hb; replace HB := bz HB hb; clear hb hg; have asf := sQ.out; have asg := kH.out; have z21 := zx jX.out) | (go_at_call 158; refine mB (ji.calls A9.out) ?_; intro Xm hb; replace kT := rg kT hb; replace dX := ak (lY (g := vU) (o := .cells #[.slice none 0 0, .slice none 0 0, .slice none 0 0] 28 (0, 0)) (by (with_reducible repeat (first | refine dA ?_ _ | refine bn ?_ | refine aX ?_ _)); refine oV ?_ kH.out _; (with_reducible repeat (first | refine dA ?_ _ | refine bn ?_ | refine aX ?_ _)); refine oV ?_ kH.out _; (with_reducible repeat (first | refine dA ?_ _ | refine bn ?_ | refine aX ?_ _)); exact dX.out) hb); replace jX := ak (lY (g := nY) (o := .cells #[.string (⟨#[83, 117, 98, 106, 101, 99, 116]⟩ : ByteArray), .string wu] 69 (0, 0)) (by (with_reducible repeat (first | refine dA ?_ _ | refine bn ?_ | refine aX ?_ _)); refine ku (cs := #[.string (⟨#[83, 117, 98, 106, 101, 99, 116]⟩ : ByteArray), .string (⟨#[]⟩ : ByteArray)]) ?_ 1 _ rfl; (with_reducible repeat (first | refine dA ?_ _ | refine bn ?_ | refine aX ?_ _)); refine ku (cs := #[.string (⟨#[]⟩ : ByteArray), .string (⟨#[]⟩ : ByteArray)]) ?_ 0 _ rfl; (with_reducible repeat (first | refine dA ?_ _ | refine bn ?_ | refine aX ?_ _)); exact jX.out) hb); replace HB := bz HB hb; clear hb; obtain ⟨O6, NJ, alZ⟩ := Kd.aN kT.out; subst alZ) | (go_at_call 114; refine mA (iJ.calls (cu ((Kd.au kT.out).2.2)) ((Kd.au kT.out).2.1) YJ.out) ?_; intro nd; (try (rw [Pz Xm]; generalize hq_ : World.drewN Xm _ = Xm; have yP : ah (Kd.R Kd.string 9 Xm w.heap.size (fun _ => True) (.slice O6 JB.length NJ) JB) := ⟨by rw [← hq_]; exact (ur kT.out)⟩; have yQ : ah (Xm.heap[vU]? = some (.cells #[.slice none 0 0, .slice none 0 0, .slice none 0 0] 28 (0, 0))) := ⟨by rw [← hq_]; exact (ub dX.out)⟩; have zA : ah (Xm.heap[nY]? = some (.cells #[.string (⟨#[83, 117, 98, 106, 101, 99, 116]⟩ : ByteArray), .string wu] 69 (0, 0))) := ⟨by rw [← hq_]; exact (ub jX.out)⟩; have CS : ah (Below w.heap.size w Xm) := ⟨by rw [← hq_]; exact bb⟩; clear kT dX jX HB hq_; have kT := yP; have dX := yQ; have jX := zA; have HB := CS; clear yP yQ zA CS))) | (refine QC 54 Kd.string 9 [.string (⟨#[55, 98, 105, 116]⟩ : ByteArray), .string (⟨#[113, 117, 111, 116, 101, 100, 45, 112, 114, 105, 110, 116, 97, 98, 108, 101]⟩ : ByteArray), .string (⟨#[98, 97, 115, 101, 54, 52]⟩ : ByteArray)] ase (dD.one (show Kd.M Kd.string _ _ _ (⟨#[55, 98, 105, 116]⟩ : ByteArray) [.string (⟨#[55, 98, 105, 116]⟩ : ByteArray)] from rfl) (dD.one (show Kd.M Kd.string _ _ _ (⟨#[113, 117, 111, 116, 101, 100, 45, 112, 114, 105, 110, 116, 97, 98, 108, 101]⟩ : ByteArray) [.string (⟨#[113, 117, 111, 116, 101, 100, 45, 112, 114, 105, 110, 116, 97, 98, 108, 101]⟩ : ByteArray)] from rfl) (dD.one (show Kd.M Kd.string _ _ _ (⟨#[98, 97, 115, 101, 54, 52]⟩ : ByteArray) [.string (⟨#[98, 97, 115, 101, 54, 52]⟩ : ByteArray)] from rfl) (dD.none _ _)))) ?_; intro aFU w24 PD hb; have rM := ak (Kd.aA (Kd.gU PD (Kd.kX (ur kT.out))) (aj bb)); replace kT := ak (Kd.fV (ur kT.out) (Kd.fQ PD) hb); replace dX := kb dX hb; replace jX := ak (lY (g := nY) (o := .cells #[.string (⟨#[83, 117, 98, 106, 101, 99, 116]⟩ : ByteArray), .string wu] 69 (0, 0)) (ub jX.out) hb); replace HB := bz HB hb; clear hb PD))
      replace kT := ak (Kd.mD kT.out)
      replace rM := ak (Kd.mD rM.out)
      replace dX := ak (bn dX.out)
      replace jX := ak (bn jX.out)
      replace HB := ak (iH HB.out)
      obtain ⟨ag_, Ua, aha⟩ := Kd.aN rM.out
      (first | subst aha | (injection aha with qR wZ qU; have xg := qR.symm; have xk := qU.symm; clear qR wZ qU; subst xg; subst xk))
      have am2 := zi CX
      have am3 := zj CX zN.length
      obtain ⟨PE, ayk, aag⟩ := Kd.kF (Kd.au rM.out).2.2 CX am2 am3
      cases ayk
      replace am2 := eq_true am2
      replace am3 := eq_true am3
      refine Ci (n := 11) (S := fun w' => w'.cell? ⟨nY, 0, none⟩ = some (.string (⟨#[83, 117, 98, 106, 101, 99, 116]⟩ : ByteArray)) ∧ w'.cell? ⟨nY, 1, none⟩ = some (.string wu) ∧ w'.cell? (PE.add (CX).toNat) = some (.string (o8 ByteArray.empty zN CX))) (ds := []) #[false, false, false, false, false, false, false, false, false, false, false] (by kernel_rfl) rfl rfl ⟨(aG jX.out 0).trans rfl, (aG jX.out 1).trans rfl, aag⟩ (fun hHeld => ?_); refine uq gq.abC gq.Rj (fun t_ Xp => ?_)
      generalize w24.drew = w26 at kT rM dX jX HB aag hHeld ⊢
      refine xJ (i := 1) (N := some 56) (v := ?_) (a' := ?_) #[false, true, false, false, false, false, false, false, false, false, false] rfl rfl (tX t_.out (by kernel_rfl)) (fun _ _ _ h => h) (Or.inl ⟨by rfl, ?_⟩) ?_ ?_
      rotate_left
      ·
       intro w'
       go_simp
       with_reducible rfl
      rotate_left
      ·
       simp only [Act.put, qW, qX, l_c, dU, fU]
       rfl
      refine xJ (i := 2) (N := some 57) (v := ?_) (a' := ?_) #[false, true, true, false, false, false, false, false, false, false, false] rfl rfl (tX t_.out (by kernel_rfl)) (fun _ _ _ h => h) (Or.inl ⟨by rfl, ?_⟩) ?_ ?_
      rotate_left
      ·
       intro w'
       go_simp
       with_reducible rfl
      rotate_left
      ·
       simp only [Act.put, qW, qX, l_c, dU, fU]
       rfl
      refine xJ (i := 3) (N := some 58) (v := ?_) (a' := ?_) #[false, true, true, true, false, false, false, false, false, false, false] rfl rfl (tX t_.out (by kernel_rfl)) (fun _ _ _ h => h) (Or.inl ⟨by rfl, ?_⟩) ?_ ?_
      rotate_left
      ·
       intro w'
       go_simp
       with_reducible rfl
      rotate_left
      ·
       simp only [Act.put, qW, qX, l_c, dU, fU]
       rfl
      refine xJ (i := 4) (N := some 59) (v := ?_) (a' := ?_) #[false, true, true, true, true, false, false, false, false, false, false] rfl rfl (tX t_.out (by kernel_rfl)) (fun _ _ _ h => h) (Or.inl ⟨by rfl, ?_⟩) ?_ ?_
      rotate_left
      ·
       intro w'
       go_simp
       with_reducible rfl
      rotate_left
      ·
       simp only [Act.put, qW, qX, l_c, dU, fU]
       rfl
      refine JC (i := 0) (N := some 55) (v := ?_) (a' := ?_) #[true, true, true, true, true, false, false, false, false, false, false] rfl rfl (CY t_.out Xp.out (by kernel_rfl)) (fun _ _ _ h => h) (Or.inl ⟨by rfl, ?_⟩) hHeld ?_ ?_
      rotate_left
      ·
       rintro w' ⟨s0, s1, s2⟩
       go_simp
       with_reducible rfl
      rotate_left
      ·
       simp only [Act.put, qW, qX, l_c, dU, fU]
       rfl
      refine JC (i := 5) (N := some 60) (v := ?_) (a' := ?_) #[true, true, true, true, true, true, false, false, false, false, false] rfl rfl (CY t_.out Xp.out (by kernel_rfl)) (fun _ _ _ h => h) (Or.inl ⟨by rfl, ?_⟩) hHeld ?_ ?_
      rotate_left
      ·
       rintro w' ⟨s0, s1, s2⟩
       go_simp
       with_reducible rfl
      rotate_left
      ·
       simp only [Act.put, qW, qX, l_c, dU, fU]
       rfl
      refine xJ (i := 6) (N := some 61) (v := ?_) (a' := ?_) #[true, true, true, true, true, true, true, false, false, false, false] rfl rfl (tX t_.out (by kernel_rfl)) (fun _ _ _ h => h) (Or.inl ⟨by rfl, ?_⟩) ?_ ?_
      rotate_left
      ·
       intro w'
       go_simp
       with_reducible rfl
      rotate_left
      ·
       simp only [Act.put, qW, qX, l_c, dU, fU]
       rfl
      refine adU (σ := Value × Nat) 1 #[true, true, true, true, true, true, true, true, true, true, false] (fun s_ => [(62, s_.1), (14, .pointer (some ⟨s_.2, 0, none⟩)), (63, .agg #[s_.1, .slice none 0 0, .slice none 0 0])]) (fun s_ w' => (w'.cell? ⟨nY, 0, none⟩ = some (.string (⟨#[83, 117, 98, 106, 101, 99, 116]⟩ : ByteArray)) ∧ w'.cell? ⟨nY, 1, none⟩ = some (.string wu) ∧ w'.cell? (PE.add (CX).toNat) = some (.string (o8 ByteArray.empty zN CX))) ∧ (Kd.R Kd.string 9 w' w.heap.size (fun k_ => some k_ ≠ (.slice (some PE) zN.length Ua : Value).ownBlock) (.slice O6 JB.length NJ) JB) ∧ (Kd.R Kd.string 9 w' w.heap.size (fun k_ => some k_ ≠ (.slice O6 JB.length NJ : Value).ownBlock) (.slice (some PE) zN.length Ua) zN) ∧ (Kd.R qJ 69 w' w.heap.size (fun k_ => k_ ≠ nY) s_.1 NR) ∧ (w'.heap[vU]? = some (.cells #[.slice none 0 0, .slice none 0 0, .slice none 0 0] 28 (0, 0))) ∧ (w'.heap[nY]? = some (.cells #[.string (⟨#[83, 117, 98, 106, 101, 99, 116]⟩ : ByteArray), .string wu] 69 (0, 0))) ∧ (w'.heap[s_.2]? = some (.cells #[.slice none 0 0, .slice none 0 0, .slice none 0 0] 28 (0, 0))) ∧ (w.heap.size ≤ s_.2) ∧ (w.heap.size ≤ s_.2) ∧ (vU ≠ s_.2) ∧ (s_.2 ≠ vU) ∧ (nY ≠ s_.2) ∧ (s_.2 ≠ nY) ∧ (Below w.heap.size w w')) ?_ ?_
      rotate_left
      ·
       intro Rn
       refine ahb (i := 7) (j := 9) (Ni := some 62) (Nj := some 14) #[true, true, true, true, true, true, true, true, false, false, false] #[true, true, true, true, true, true, true, false, false, true, false] rfl rfl rfl rfl (Ub t_.out (by kernel_rfl)) (by decide) (by decide) (fun K hK => ?_) (fun K hK => ?_)
       ·
        skip
        refine Kd.qM qJ _ 69 ?hg (N := 62) ?hd (xs := ([(⟨(⟨#[83, 117, 98, 106, 101, 99, 116]⟩ : ByteArray), wu⟩ : gY), (⟨(⟨#[67, 111, 110, 116, 101, 110, 116, 45, 84, 121, 112, 101]⟩ : ByteArray), (⟨#[116, 101, 120, 116, 47, 112, 108, 97, 105, 110, 59, 32, 99, 104, 97, 114, 115, 101, 116, 61, 117, 116, 102, 45, 56]⟩ : ByteArray)⟩ : gY), (⟨(⟨#[67, 111, 110, 116, 101, 110, 116, 45, 84, 114, 97, 110, 115, 102, 101, 114, 45, 69, 110, 99, 111, 100, 105, 110, 103]⟩ : ByteArray), o8 ByteArray.empty zN CX⟩ : gY)] : List (gY))) (inner := [.string (⟨#[83, 117, 98, 106, 101, 99, 116]⟩ : ByteArray), .string wu, .string (⟨#[67, 111, 110, 116, 101, 110, 116, 45, 84, 121, 112, 101]⟩ : ByteArray), .string (⟨#[116, 101, 120, 116, 47, 112, 108, 97, 105, 110, 59, 32, 99, 104, 97, 114, 115, 101, 116, 61, 117, 116, 102, 45, 56]⟩ : ByteArray), .string (⟨#[67, 111, 110, 116, 101, 110, 116, 45, 84, 114, 97, 110, 115, 102, 101, 114, 45, 69, 110, 99, 111, 100, 105, 110, 103]⟩ : ByteArray), .string (o8 ByteArray.empty zN CX)]) (ok := fun _ => True) (vX := fun _ => True) ?hr ?hp (fun _ hk => hk) trivial (Below.refl _ _) (Nat.le_refl _) (by simp) ?_; (case hd => rfl); (case hg => rfl); (case hr => first | (go_simp; done) | (go_simp; rfl)); (case hp => exact (dD.c2 (show Kd.M qJ _ _ _ (⟨(⟨#[83, 117, 98, 106, 101, 99, 116]⟩ : ByteArray), wu⟩ : gY) [.string (⟨#[83, 117, 98, 106, 101, 99, 116]⟩ : ByteArray), .string wu] from (wC _ _ _ (⟨(⟨#[83, 117, 98, 106, 101, 99, 116]⟩ : ByteArray), wu⟩ : gY) )) (dD.c2 (show Kd.M qJ _ _ _ (⟨(⟨#[67, 111, 110, 116, 101, 110, 116, 45, 84, 121, 112, 101]⟩ : ByteArray), (⟨#[116, 101, 120, 116, 47, 112, 108, 97, 105, 110, 59, 32, 99, 104, 97, 114, 115, 101, 116, 61, 117, 116, 102, 45, 56]⟩ : ByteArray)⟩ : gY) [.string (⟨#[67, 111, 110, 116, 101, 110, 116, 45, 84, 121, 112, 101]⟩ : ByteArray), .string (⟨#[116, 101, 120, 116, 47, 112, 108, 97, 105, 110, 59, 32, 99, 104, 97, 114, 115, 101, 116, 61, 117, 116, 102, 45, 56]⟩ : ByteArray)] from (wC _ _ _ (⟨(⟨#[67, 111, 110, 116, 101, 110, 116, 45, 84, 121, 112, 101]⟩ : ByteArray), (⟨#[116, 101, 120, 116, 47, 112, 108, 97, 105, 110, 59, 32, 99, 104, 97, 114, 115, 101, 116, 61, 117, 116, 102, 45, 56]⟩ : ByteArray)⟩ : gY) )) (dD.c2 (show Kd.M qJ _ _ _ (⟨(⟨#[67, 111, 110, 116, 101, 110, 116, 45, 84, 114, 97, 110, 115, 102, 101, 114, 45, 69, 110, 99, 111, 100, 105, 110, 103]⟩ : ByteArray), o8 ByteArray.empty zN CX⟩ : gY) [.string (⟨#[67, 111, 110, 116, 101, 110, 116, 45, 84, 114, 97, 110, 115, 102, 101, 114, 45, 69, 110, 99, 111, 100, 105, 110, 103]⟩ : ByteArray), .string (o8 ByteArray.empty zN CX)] from (wC _ _ _ (⟨(⟨#[67, 111, 110, 116, 101, 110, 116, 45, 84, 114, 97, 110, 115, 102, 101, 114, 45, 69, 110, 99, 111, 100, 105, 110, 103]⟩ : ByteArray), o8 ByteArray.empty zN CX⟩ : gY) )) (dD.none _ _)))))
        intro am4 w28 adV hb Bl wo
        have XJ := (hb.cell (World.block_lt_of_cell? _ _ (hHeld.2.2))).trans (hHeld.2.2)
        clear Bl wo
        (first | rw [← VP.out] at adV | (simp only [Int.reduceToNat] at adV; rw [← VP.out] at adV))
        have JD := ak (Kd.aA (Kd.nP adV (g := nY) (o := .cells #[.string (⟨#[83, 117, 98, 106, 101, 99, 116]⟩ : ByteArray), .string wu] 69 (0, 0)) (ub jX.out)) (aj bb))
        replace kT := rb kT hb
        replace rM := rb rM hb
        replace dX := kb dX hb
        replace jX := ak (lY (g := nY) (o := .cells #[.string (⟨#[83, 117, 98, 106, 101, 99, 116]⟩ : ByteArray), .string wu] 69 (0, 0)) (ub jX.out) hb)
        replace HB := bz HB hb
        clear hb adV
        obtain ⟨ash, asi, ahc⟩ := Kd.aN JD.out
        (first | subst ahc | (injection ahc with qR wZ qU; have xg := qR.symm; have xk := qU.symm; clear qR wZ qU; subst xg; subst xk))
        refine hK.out _ _ ⟨(aG jX.out 0).trans rfl, (aG jX.out 1).trans rfl, XJ⟩ (fun hHeld => ?_)
        clear hK K
        refine qF (a' := ?_) ?_ ?_
        rotate_left
        ·
         show Act.put _ (some 62) _ = _
         simp only [Act.put, qW, qX, l_c, dU, fU]
         rfl
        refine xJ (i := 8) (N := some 63) (v := ?_) (a' := ?_) #[true, true, true, true, true, true, true, true, true, false, false] rfl rfl (tX t_.out (by kernel_rfl)) (fun _ _ _ h => h) (Or.inl ⟨by rfl, ?_⟩) ?_ ?_
        rotate_left
        ·
         intro w'
         go_simp
         with_reducible rfl
        rotate_left
        ·
         simp only [Act.put, qW, qX, l_c, dU, fU]
         rfl
        refine ED (i := 9) (N := some 14) #[true, true, true, true, true, true, true, true, true, true, false] rfl rfl (oL t_.out (by kernel_rfl)) (by decide) (fun K hK => ?_)
        refine PG ?hg (N := 14) ?hd (cs := #[.slice none 0 0, .slice none 0 0, .slice none 0 0]) (t := 28) ?hr ?_; (case hd => rfl); (case hg => rfl); (case hr => first | (go_simp; done) | (go_simp; rfl))
        intro qN hg w31 hbox hb
        have XJ := (hb.cell (World.block_lt_of_cell? _ _ (hHeld.2.2))).trans (hHeld.2.2)
        have tC := ak (hbox)
        have aah := ak ((by rw [hg]; exact (aj bb) : w.heap.size ≤ qN))
        have aai := ak ((by rw [hg]; exact (aj bb) : w.heap.size ≤ qN))
        have qY := AZ dX hg
        have wP := A_ dX hg
        have pJ := ak ((by rw [hg]; exact Nat.ne_of_lt (xI (g := nY) (o := .cells #[.string (⟨#[83, 117, 98, 106, 101, 99, 116]⟩ : ByteArray), .string wu] 69 (0, 0)) (ub jX.out)) : nY ≠ qN))
        have wQ := ak ((by rw [hg]; exact Nat.ne_of_gt (xI (g := nY) (o := .cells #[.string (⟨#[83, 117, 98, 106, 101, 99, 116]⟩ : ByteArray), .string wu] 69 (0, 0)) (ub jX.out)) : qN ≠ nY))
        replace kT := rb kT hb
        replace rM := rb rM hb
        replace JD := rb JD hb
        replace dX := kb dX hb
        replace jX := ak (lY (g := nY) (o := .cells #[.string (⟨#[83, 117, 98, 106, 101, 99, 116]⟩ : ByteArray), .string wu] 69 (0, 0)) (ub jX.out) hb)
        replace HB := bz HB hb
        clear hb hbox hg
        refine hK.out _ _ ⟨(aG jX.out 0).trans rfl, (aG jX.out 1).trans rfl, XJ⟩ (fun hHeld => ?_)
        clear hK K
        refine qF (a' := ?_) ?_ ?_
        rotate_left
        ·
         show Act.put _ (some 14) _ = _
         simp only [Act.put, qW, qX, l_c, dU, fU]
         rfl
        exact qF (by simp only [yj, Act.put, qW, qX, l_c] <;> rfl) (Rn (.slice ash NR.length asi, qN) _ ⟨hHeld, (ur (Kd.aZ kT.out (fun _ hk => hk.2))), (ur (Kd.aZ rM.out (fun _ hk => hk.2))), (ur (Kd.aZ JD.out (fun _ hk => hk.2))), (ub dX.out), (ub jX.out), (ub tC.out), aah.out, aai.out, qY.out, wP.out, pJ.out, wQ.out, bb⟩)
       ·
        skip
        refine PG ?hg (N := 14) ?hd (cs := #[.slice none 0 0, .slice none 0 0, .slice none 0 0]) (t := 28) ?hr ?_; (case hd => rfl); (case hg => rfl); (case hr => first | (go_simp; done) | (go_simp; rfl))
        intro qN hg w28 hbox hb
        have XJ := (hb.cell (World.block_lt_of_cell? _ _ (hHeld.2.2))).trans (hHeld.2.2)
        have tC := ak (hbox)
        have aah := ak ((by rw [hg]; exact (aj bb) : w.heap.size ≤ qN))
        have aai := ak ((by rw [hg]; exact (aj bb) : w.heap.size ≤ qN))
        have qY := AZ dX hg
        have wP := A_ dX hg
        have pJ := ak ((by rw [hg]; exact Nat.ne_of_lt (xI (g := nY) (o := .cells #[.string (⟨#[83, 117, 98, 106, 101, 99, 116]⟩ : ByteArray), .string wu] 69 (0, 0)) (ub jX.out)) : nY ≠ qN))
        have wQ := ak ((by rw [hg]; exact Nat.ne_of_gt (xI (g := nY) (o := .cells #[.string (⟨#[83, 117, 98, 106, 101, 99, 116]⟩ : ByteArray), .string wu] 69 (0, 0)) (ub jX.out)) : qN ≠ nY))
        replace kT := rb kT hb
        replace rM := rb rM hb
        replace dX := kb dX hb
        replace jX := ak (lY (g := nY) (o := .cells #[.string (⟨#[83, 117, 98, 106, 101, 99, 116]⟩ : ByteArray), .string wu] 69 (0, 0)) (ub jX.out) hb)
        replace HB := bz HB hb
        clear hb hbox hg
        refine hK.out _ _ ⟨(aG jX.out 0).trans rfl, (aG jX.out 1).trans rfl, XJ⟩ (fun hHeld => ?_)
        clear hK K
        refine qF (a' := ?_) ?_ ?_
        rotate_left
        ·
         show Act.put _ (some 14) _ = _
         simp only [Act.put, qW, qX, l_c, dU, fU]
         rfl
        refine ED (i := 7) (N := some 62) #[true, true, true, true, true, true, true, true, false, true, false] rfl rfl (oL t_.out (by kernel_rfl)) (by decide) (fun K hK => ?_)
        refine Kd.qM qJ _ 69 ?hg (N := 62) ?hd (xs := ([(⟨(⟨#[83, 117, 98, 106, 101, 99, 116]⟩ : ByteArray), wu⟩ : gY), (⟨(⟨#[67, 111, 110, 116, 101, 110, 116, 45, 84, 121, 112, 101]⟩ : ByteArray), (⟨#[116, 101, 120, 116, 47, 112, 108, 97, 105, 110, 59, 32, 99, 104, 97, 114, 115, 101, 116, 61, 117, 116, 102, 45, 56]⟩ : ByteArray)⟩ : gY), (⟨(⟨#[67, 111, 110, 116, 101, 110, 116, 45, 84, 114, 97, 110, 115, 102, 101, 114, 45, 69, 110, 99, 111, 100, 105, 110, 103]⟩ : ByteArray), o8 ByteArray.empty zN CX⟩ : gY)] : List (gY))) (inner := [.string (⟨#[83, 117, 98, 106, 101, 99, 116]⟩ : ByteArray), .string wu, .string (⟨#[67, 111, 110, 116, 101, 110, 116, 45, 84, 121, 112, 101]⟩ : ByteArray), .string (⟨#[116, 101, 120, 116, 47, 112, 108, 97, 105, 110, 59, 32, 99, 104, 97, 114, 115, 101, 116, 61, 117, 116, 102, 45, 56]⟩ : ByteArray), .string (⟨#[67, 111, 110, 116, 101, 110, 116, 45, 84, 114, 97, 110, 115, 102, 101, 114, 45, 69, 110, 99, 111, 100, 105, 110, 103]⟩ : ByteArray), .string (o8 ByteArray.empty zN CX)]) (ok := fun _ => True) (vX := fun _ => True) ?hr ?hp (fun _ hk => hk) trivial (Below.refl _ _) (Nat.le_refl _) (by simp) ?_; (case hd => rfl); (case hg => rfl); (case hr => first | (go_simp; done) | (go_simp; rfl)); (case hp => exact (dD.c2 (show Kd.M qJ _ _ _ (⟨(⟨#[83, 117, 98, 106, 101, 99, 116]⟩ : ByteArray), wu⟩ : gY) [.string (⟨#[83, 117, 98, 106, 101, 99, 116]⟩ : ByteArray), .string wu] from (wC _ _ _ (⟨(⟨#[83, 117, 98, 106, 101, 99, 116]⟩ : ByteArray), wu⟩ : gY) )) (dD.c2 (show Kd.M qJ _ _ _ (⟨(⟨#[67, 111, 110, 116, 101, 110, 116, 45, 84, 121, 112, 101]⟩ : ByteArray), (⟨#[116, 101, 120, 116, 47, 112, 108, 97, 105, 110, 59, 32, 99, 104, 97, 114, 115, 101, 116, 61, 117, 116, 102, 45, 56]⟩ : ByteArray)⟩ : gY) [.string (⟨#[67, 111, 110, 116, 101, 110, 116, 45, 84, 121, 112, 101]⟩ : ByteArray), .string (⟨#[116, 101, 120, 116, 47, 112, 108, 97, 105, 110, 59, 32, 99, 104, 97, 114, 115, 101, 116, 61, 117, 116, 102, 45, 56]⟩ : ByteArray)] from (wC _ _ _ (⟨(⟨#[67, 111, 110, 116, 101, 110, 116, 45, 84, 121, 112, 101]⟩ : ByteArray), (⟨#[116, 101, 120, 116, 47, 112, 108, 97, 105, 110, 59, 32, 99, 104, 97, 114, 115, 101, 116, 61, 117, 116, 102, 45, 56]⟩ : ByteArray)⟩ : gY) )) (dD.c2 (show Kd.M qJ _ _ _ (⟨(⟨#[67, 111, 110, 116, 101, 110, 116, 45, 84, 114, 97, 110, 115, 102, 101, 114, 45, 69, 110, 99, 111, 100, 105, 110, 103]⟩ : ByteArray), o8 ByteArray.empty zN CX⟩ : gY) [.string (⟨#[67, 111, 110, 116, 101, 110, 116, 45, 84, 114, 97, 110, 115, 102, 101, 114, 45, 69, 110, 99, 111, 100, 105, 110, 103]⟩ : ByteArray), .string (o8 ByteArray.empty zN CX)] from (wC _ _ _ (⟨(⟨#[67, 111, 110, 116, 101, 110, 116, 45, 84, 114, 97, 110, 115, 102, 101, 114, 45, 69, 110, 99, 111, 100, 105, 110, 103]⟩ : ByteArray), o8 ByteArray.empty zN CX⟩ : gY) )) (dD.none _ _)))))
        intro am4 w29 VT hb Bl wo
        have XJ := (hb.cell (World.block_lt_of_cell? _ _ (hHeld.2.2))).trans (hHeld.2.2)
        clear Bl wo
        (first | rw [← VP.out] at VT | (simp only [Int.reduceToNat] at VT; rw [← VP.out] at VT))
        have JD := ak (Kd.aA (Kd.nP VT (g := nY) (o := .cells #[.string (⟨#[83, 117, 98, 106, 101, 99, 116]⟩ : ByteArray), .string wu] 69 (0, 0)) (ub jX.out)) (aj bb))
        replace kT := rb kT hb
        replace rM := rb rM hb
        replace dX := kb dX hb
        replace jX := ak (lY (g := nY) (o := .cells #[.string (⟨#[83, 117, 98, 106, 101, 99, 116]⟩ : ByteArray), .string wu] 69 (0, 0)) (ub jX.out) hb)
        replace tC := kb tC hb
        replace HB := bz HB hb
        clear hb VT
        obtain ⟨am5, am6, ahd⟩ := Kd.aN JD.out
        (first | subst ahd | (injection ahd with qR wZ qU; have xg := qR.symm; have xk := qU.symm; clear qR wZ qU; subst xg; subst xk))
        refine hK.out _ _ ⟨(aG jX.out 0).trans rfl, (aG jX.out 1).trans rfl, XJ⟩ (fun hHeld => ?_)
        clear hK K
        refine qF (a' := ?_) ?_ ?_
        rotate_left
        ·
         show Act.put _ (some 62) _ = _
         simp only [Act.put, qW, qX, l_c, dU, fU]
         rfl
        refine xJ (i := 8) (N := some 63) (v := ?_) (a' := ?_) #[true, true, true, true, true, true, true, true, true, true, false] rfl rfl (tX t_.out (by kernel_rfl)) (fun _ _ _ h => h) (Or.inl ⟨by rfl, ?_⟩) ?_ ?_
        rotate_left
        ·
         intro w'
         go_simp
         with_reducible rfl
        rotate_left
        ·
         simp only [Act.put, qW, qX, l_c, dU, fU]
         rfl
        exact qF (by simp only [yj, Act.put, qW, qX, l_c] <;> rfl) (Rn (.slice am5 NR.length am6, qN) _ ⟨hHeld, (ur (Kd.aZ kT.out (fun _ hk => hk.2))), (ur (Kd.aZ rM.out (fun _ hk => hk.2))), (ur (Kd.aZ JD.out (fun _ hk => hk.2))), (ub dX.out), (ub jX.out), (ub tC.out), aah.out, aai.out, qY.out, wP.out, pJ.out, wQ.out, bb⟩)
      rintro ⟨am4, qN⟩ w32 ⟨hS_, h0_, h1_, h2_, h3_, h4_, h5_, h6_, h7_, h8_, h9_, Uc, abO, am7⟩
      have yP : ah (Kd.R Kd.string 9 w32 w.heap.size (fun k_ => some k_ ≠ (.slice (some PE) zN.length Ua : Value).ownBlock) (.slice O6 JB.length NJ) JB) := ⟨h0_⟩
      have yQ : ah (Kd.R Kd.string 9 w32 w.heap.size (fun k_ => some k_ ≠ (.slice O6 JB.length NJ : Value).ownBlock) (.slice (some PE) zN.length Ua) zN) := ⟨h1_⟩
      have zA : ah (Kd.R qJ 69 w32 w.heap.size (fun k_ => k_ ≠ nY) am4 NR) := ⟨h2_⟩
      have CS : ah (w32.heap[vU]? = some (.cells #[.slice none 0 0, .slice none 0 0, .slice none 0 0] 28 (0, 0))) := ⟨h3_⟩
      have GY : ah (w32.heap[nY]? = some (.cells #[.string (⟨#[83, 117, 98, 106, 101, 99, 116]⟩ : ByteArray), .string wu] 69 (0, 0))) := ⟨h4_⟩
      have JE : ah (w32.heap[qN]? = some (.cells #[.slice none 0 0, .slice none 0 0, .slice none 0 0] 28 (0, 0))) := ⟨h5_⟩
      have MX : ah (w.heap.size ≤ qN) := ⟨h6_⟩
      have Ro : ah (w.heap.size ≤ qN) := ⟨h7_⟩
      have VU : ah (vU ≠ qN) := ⟨h8_⟩
      have n9_ : ah (qN ≠ vU) := ⟨h9_⟩
      have PI : ah (nY ≠ qN) := ⟨Uc⟩
      have adW : ah (qN ≠ nY) := ⟨abO⟩
      have asj : ah (Below w.heap.size w w32) := ⟨am7⟩
      clear kT rM dX jX HB h0_ h1_ h2_ h3_ h4_ h5_ h6_ h7_ h8_ h9_ Uc abO am7
      have kT := yP
      have rM := yQ
      have JD := zA
      have dX := CS
      have jX := GY
      have tC := JE
      have aah := MX
      have aai := Ro
      have qY := VU
      have wP := n9_
      have pJ := PI
      have wQ := adW
      have HB := asj
      clear yP yQ zA CS GY JE MX Ro VU n9_ PI adW asj
      have hHeld : w32.cell? ⟨nY, 0, none⟩ = some (.string (⟨#[83, 117, 98, 106, 101, 99, 116]⟩ : ByteArray)) ∧ w32.cell? ⟨nY, 1, none⟩ = some (.string wu) ∧ w32.cell? (PE.add (CX).toNat) = some (.string (o8 ByteArray.empty zN CX)) := hS_
      obtain ⟨QN, QO, adX⟩ := Kd.aN JD.out
      (first | subst adX | (injection adX with qR wZ qU; have xg := qR.symm; have xk := qU.symm; clear qR wZ qU; subst xg; subst xk))
      refine qF (a' := ?_) ?_ ?_
      rotate_left
      ·
       simp only [yj, Act.put, qW, qX, l_c]
       rfl
      refine ED (i := 10) (N := none) #[true, true, true, true, true, true, true, true, true, true, true] rfl rfl (oL t_.out (by kernel_rfl)) (by decide) (fun K hK => ?_)
      have aFV : w32.cell? ⟨qN, 0, none⟩ = some (.slice none 0 0) := (aG tC.out 0).trans rfl
      have aBu := iq tC.out 0
      have av1 := qY.out
      have av2 := pJ.out
      have av3 := wP.out
      have av4 := wQ.out
      have aFW : w32.cell? ⟨qN, 1, none⟩ = some (.slice none 0 0) := (aG tC.out 1).trans rfl
      have aBv := iq tC.out 1
      have av5 := qY.out
      have av6 := pJ.out
      have av7 := wP.out
      have av8 := wQ.out
      have ayl : w32.cell? ⟨qN, 2, none⟩ = some (.slice none 0 0) := (aG tC.out 2).trans rfl
      have asl := iq tC.out 2
      have ahe := qY.out
      have ahf := pJ.out
      have ahg := wP.out
      have ahh := wQ.out
      refine GZ (w1 := ?_) (by rfl) rfl ?_ ?_
      rotate_left
      ·
       go_simp
       rfl
      refine hK.out _ _ ⟨((cell_far (p := ⟨qN, _, none⟩) pJ.out _).trans (((cell_far (p := ⟨qN, _, none⟩) pJ.out _).trans (((cell_far (p := ⟨qN, _, none⟩) pJ.out _).trans (hHeld.1)))))), ((cell_far (p := ⟨qN, _, none⟩) pJ.out _).trans (((cell_far (p := ⟨qN, _, none⟩) pJ.out _).trans (((cell_far (p := ⟨qN, _, none⟩) pJ.out _).trans (hHeld.2.1)))))), ((cell_far (p := ⟨qN, _, none⟩) (by first | exact Kd.vI (Kd.oQ rM.out tC.out (by decide)) | (rw [add_block]; exact Kd.vI (Kd.oQ rM.out tC.out (by decide))) | (show (Addr.add _ _).block ≠ _; rw [add_block]; exact Kd.vI (Kd.oQ rM.out tC.out (by decide))) | (dsimp only; exact Kd.vI (Kd.oQ rM.out tC.out (by decide)))) _).trans (((cell_far (p := ⟨qN, _, none⟩) (by first | exact Kd.vI (Kd.oQ rM.out tC.out (by decide)) | (rw [add_block]; exact Kd.vI (Kd.oQ rM.out tC.out (by decide))) | (show (Addr.add _ _).block ≠ _; rw [add_block]; exact Kd.vI (Kd.oQ rM.out tC.out (by decide))) | (dsimp only; exact Kd.vI (Kd.oQ rM.out tC.out (by decide)))) _).trans (((cell_far (p := ⟨qN, _, none⟩) (by first | exact Kd.vI (Kd.oQ rM.out tC.out (by decide)) | (rw [add_block]; exact Kd.vI (Kd.oQ rM.out tC.out (by decide))) | (show (Addr.add _ _).block ≠ _; rw [add_block]; exact Kd.vI (Kd.oQ rM.out tC.out (by decide))) | (dsimp only; exact Kd.vI (Kd.oQ rM.out tC.out (by decide)))) _).trans (hHeld.2.2))))))⟩ (fun hHeld => ?_)
      clear hK K
      refine G5 (yH t_.out (by kernel_rfl)) ?_
      have asn := wP.out
      have aso := qY.out
      have asq := wQ.out
      have asr := pJ.out
      have z39 := jW tC.out
      have z40 := jW dX.out
      have aBw := jW (ku (cs' := #[.slice QN NR.length QO, .slice O6 JB.length NJ, .slice none 0 0]) (ku (cs' := #[.slice QN NR.length QO, .slice none 0 0, .slice none 0 0]) (ku (cs' := #[.slice QN NR.length QO, .slice none 0 0, .slice none 0 0]) (ku (cs' := #[.slice QN NR.length QO, .slice none 0 0, .slice none 0 0]) tC.out 0 (.slice QN NR.length QO) rfl) 1 (.slice none 0 0) rfl) 2 (.slice none 0 0) rfl) 1 (.slice O6 JB.length NJ) rfl)
      try go_wp2
      refine bodyPost_ret (lM rfl _ _ vU 28 #[.slice QN NR.length QO, .slice O6 JB.length NJ, .slice none 0 0] (0, 0) _ rfl (by (with_reducible repeat (first | refine dA ?_ _ | refine bn ?_ | refine aX ?_ _)); refine ku (cs := #[.slice QN NR.length QO, .slice O6 JB.length NJ, .slice none 0 0]) ?_ 2 _ rfl; (with_reducible repeat (first | refine dA ?_ _ | refine bn ?_ | refine aX ?_ _)); refine ku (cs := #[.slice QN NR.length QO, .slice none 0 0, .slice none 0 0]) ?_ 1 _ rfl; (with_reducible repeat (first | refine dA ?_ _ | refine bn ?_ | refine aX ?_ _)); refine ku (cs := #[.slice none 0 0, .slice none 0 0, .slice none 0 0]) ?_ 0 _ rfl; (with_reducible repeat (first | refine dA ?_ _ | refine bn ?_ | refine aX ?_ _)); refine oV ?_ qY.out _; (with_reducible repeat (first | refine dA ?_ _ | refine bn ?_ | refine aX ?_ _)); refine oV ?_ qY.out _; (with_reducible repeat (first | refine dA ?_ _ | refine bn ?_ | refine aX ?_ _)); refine oV ?_ qY.out _; (with_reducible repeat (first | refine dA ?_ _ | refine bn ?_ | refine aX ?_ _)); refine oV ?_ qY.out _; (with_reducible repeat (first | refine dA ?_ _ | refine bn ?_ | refine aX ?_ _)); exact dX.out) Tryz.underlying28 rfl (by kernel_rfl)) rfl ?_
      exact ⟨_, _, _, er, rr, rr, nx, bb⟩
     ·
      obtain ⟨rfl, rfl, rfl, rfl⟩ := s4 H
      go_enter Tryz.func167, Tryz.ntmps167
      go_wp2_with (first | (refine bX HB 4 #[.slice none 0 0, .slice none 0 0, .slice none 0 0] 28 ?_; intro vU w41 dX VQ hb; replace HB := bs HB hb; clear hb) | (refine gB Tryz.func194 (bJ.calls A3.out) ?_; intro w42 hb; replace dX := kb dX hb; replace HB := bz HB hb; clear hb) | (refine gB Tryz.func195 (lV.calls A4.out) ?_; intro w43 hb; replace dX := kb dX hb; replace HB := bz HB hb; clear hb) | (refine gV Tryz.func196 (jM.calls A5.out) ?_; rintro adT w44 ⟨ho0, hb⟩; have kT := ak (Kd.aA ho0 (aj bb)); replace dX := kb dX hb; replace HB := bz HB hb; clear hb; (try clear ho0)) | (refine bY HB 12 #[.string (⟨#[]⟩ : ByteArray), .string (⟨#[]⟩ : ByteArray)] 69 ?_; intro nY w45 jX VR hg hb; have kH := AZ dX hg; have sQ := A_ dX hg; replace kT := rb kT hb; replace dX := kb dX hb; replace HB := bz HB hb; clear hb hg; have asu := sQ.out; have asv := kH.out; have z47 := zx jX.out) | (go_at_call 158; refine mB (ji.calls A9.out) ?_; intro w48 hb; replace kT := rg kT hb; replace dX := ak (lY (g := vU) (o := .cells #[.slice none 0 0, .slice none 0 0, .slice none 0 0] 28 (0, 0)) (by (with_reducible repeat (first | refine dA ?_ _ | refine bn ?_ | refine aX ?_ _)); refine oV ?_ kH.out _; (with_reducible repeat (first | refine dA ?_ _ | refine bn ?_ | refine aX ?_ _)); refine oV ?_ kH.out _; (with_reducible repeat (first | refine dA ?_ _ | refine bn ?_ | refine aX ?_ _)); exact dX.out) hb); replace jX := ak (lY (g := nY) (o := .cells #[.string (⟨#[83, 117, 98, 106, 101, 99, 116]⟩ : ByteArray), .string wu] 69 (0, 0)) (by (with_reducible repeat (first | refine dA ?_ _ | refine bn ?_ | refine aX ?_ _)); refine ku (cs := #[.string (⟨#[83, 117, 98, 106, 101, 99, 116]⟩ : ByteArray), .string (⟨#[]⟩ : ByteArray)]) ?_ 1 _ rfl; (with_reducible repeat (first | refine dA ?_ _ | refine bn ?_ | refine aX ?_ _)); refine ku (cs := #[.string (⟨#[]⟩ : ByteArray), .string (⟨#[]⟩ : ByteArray)]) ?_ 0 _ rfl; (with_reducible repeat (first | refine dA ?_ _ | refine bn ?_ | refine aX ?_ _)); exact jX.out) hb); replace HB := bz HB hb; clear hb; obtain ⟨PK, NS, XK⟩ := Kd.aN kT.out; subst XK) | (go_at_call 114; refine mA (iJ.calls (cu ((Kd.au kT.out).2.2)) ((Kd.au kT.out).2.1) YJ.out) ?_; intro nd; (try (rw [Pz w48]; generalize hq_ : World.drewN w48 _ = w48; have yP : ah (Kd.R Kd.string 9 w48 w.heap.size (fun _ => True) (.slice PK JB.length NS) JB) := ⟨by rw [← hq_]; exact (ur kT.out)⟩; have yQ : ah (w48.heap[vU]? = some (.cells #[.slice none 0 0, .slice none 0 0, .slice none 0 0] 28 (0, 0))) := ⟨by rw [← hq_]; exact (ub dX.out)⟩; have zA : ah (w48.heap[nY]? = some (.cells #[.string (⟨#[83, 117, 98, 106, 101, 99, 116]⟩ : ByteArray), .string wu] 69 (0, 0))) := ⟨by rw [← hq_]; exact (ub jX.out)⟩; have CS : ah (Below w.heap.size w w48) := ⟨by rw [← hq_]; exact bb⟩; clear kT dX jX HB hq_; have kT := yP; have dX := yQ; have jX := zA; have HB := CS; clear yP yQ zA CS)); have z50 := jW dX.out))
      refine bodyPost_ret (lM rfl _ _ vU 28 #[.slice none 0 0, .slice none 0 0, .slice none 0 0] (0, 0) _ rfl (by (with_reducible repeat (first | refine dA ?_ _ | refine bn ?_ | refine aX ?_ _)); refine ku (cs := #[.slice none 0 0, .slice none 0 0, .slice none 0 0]) ?_ 2 _ rfl; (with_reducible repeat (first | refine dA ?_ _ | refine bn ?_ | refine aX ?_ _)); refine ku (cs := #[.slice none 0 0, .slice none 0 0, .slice none 0 0]) ?_ 1 _ rfl; (with_reducible repeat (first | refine dA ?_ _ | refine bn ?_ | refine aX ?_ _)); refine ku (cs := #[.slice none 0 0, .slice none 0 0, .slice none 0 0]) ?_ 0 _ rfl; (with_reducible repeat (first | refine dA ?_ _ | refine bn ?_ | refine aX ?_ _)); exact dX.out) Tryz.underlying28 rfl (by kernel_rfl)) rfl ?_
      exact ⟨_, _, _, er, nx, nx, nx, bb⟩
    ·
     obtain ⟨rfl, rfl, rfl, rfl⟩ := s4 H
     go_enter Tryz.func167, Tryz.ntmps167
     go_wp2_with (first | (refine bX HB 4 #[.slice none 0 0, .slice none 0 0, .slice none 0 0] 28 ?_; intro vU w51 dX VQ hb; replace HB := bs HB hb; clear hb) | (refine gB Tryz.func194 (bJ.calls A3.out) ?_; intro w52 hb; replace dX := kb dX hb; replace HB := bz HB hb; clear hb) | (refine gB Tryz.func195 (lV.calls A4.out) ?_; intro w53 hb; replace dX := kb dX hb; replace HB := bz HB hb; clear hb) | (refine gV Tryz.func196 (jM.calls A5.out) ?_; rintro adT w54 ⟨ho0, hb⟩; have kT := ak (Kd.aA ho0 (aj bb)); replace dX := kb dX hb; replace HB := bz HB hb; clear hb; (try clear ho0)) | (refine bY HB 12 #[.string (⟨#[]⟩ : ByteArray), .string (⟨#[]⟩ : ByteArray)] 69 ?_; intro nY w55 jX VR hg hb; have kH := AZ dX hg; have sQ := A_ dX hg; replace kT := rb kT hb; replace dX := kb dX hb; replace HB := bz HB hb; clear hb hg; have asw := sQ.out; have asx := kH.out; have z57 := zx jX.out) | (go_at_call 158; refine mB (ji.calls A9.out) ?_; intro w58 hb; replace kT := rg kT hb; replace dX := ak (lY (g := vU) (o := .cells #[.slice none 0 0, .slice none 0 0, .slice none 0 0] 28 (0, 0)) (by (with_reducible repeat (first | refine dA ?_ _ | refine bn ?_ | refine aX ?_ _)); refine oV ?_ kH.out _; (with_reducible repeat (first | refine dA ?_ _ | refine bn ?_ | refine aX ?_ _)); refine oV ?_ kH.out _; (with_reducible repeat (first | refine dA ?_ _ | refine bn ?_ | refine aX ?_ _)); exact dX.out) hb); replace jX := ak (lY (g := nY) (o := .cells #[.string (⟨#[83, 117, 98, 106, 101, 99, 116]⟩ : ByteArray), .string wu] 69 (0, 0)) (by (with_reducible repeat (first | refine dA ?_ _ | refine bn ?_ | refine aX ?_ _)); refine ku (cs := #[.string (⟨#[83, 117, 98, 106, 101, 99, 116]⟩ : ByteArray), .string (⟨#[]⟩ : ByteArray)]) ?_ 1 _ rfl; (with_reducible repeat (first | refine dA ?_ _ | refine bn ?_ | refine aX ?_ _)); refine ku (cs := #[.string (⟨#[]⟩ : ByteArray), .string (⟨#[]⟩ : ByteArray)]) ?_ 0 _ rfl; (with_reducible repeat (first | refine dA ?_ _ | refine bn ?_ | refine aX ?_ _)); exact jX.out) hb); replace HB := bz HB hb; clear hb; have z59 := jW dX.out))
     refine bodyPost_ret (lM rfl _ _ vU 28 #[.slice none 0 0, .slice none 0 0, .slice none 0 0] (0, 0) _ rfl (by (with_reducible repeat (first | refine dA ?_ _ | refine bn ?_ | refine aX ?_ _)); refine ku (cs := #[.slice none 0 0, .slice none 0 0, .slice none 0 0]) ?_ 2 _ rfl; (with_reducible repeat (first | refine dA ?_ _ | refine bn ?_ | refine aX ?_ _)); refine ku (cs := #[.slice none 0 0, .slice none 0 0, .slice none 0 0]) ?_ 1 _ rfl; (with_reducible repeat (first | refine dA ?_ _ | refine bn ?_ | refine aX ?_ _)); refine ku (cs := #[.slice none 0 0, .slice none 0 0, .slice none 0 0]) ?_ 0 _ rfl; (with_reducible repeat (first | refine dA ?_ _ | refine bn ?_ | refine aX ?_ _)); exact dX.out) Tryz.underlying28 rfl (by kernel_rfl)) rfl ?_
     exact ⟨_, _, _, er, nx, nx, nx, bb⟩
   ·
    obtain ⟨rfl, rfl, rfl, rfl⟩ := s4 H
    go_enter Tryz.func167, Tryz.ntmps167
    go_wp2_with (first | (refine bX HB 4 #[.slice none 0 0, .slice none 0 0, .slice none 0 0] 28 ?_; intro vU Q_ dX VQ hb; replace HB := bs HB hb; clear hb) | (refine gB Tryz.func194 (bJ.calls A3.out) ?_; intro w61 hb; replace dX := kb dX hb; replace HB := bz HB hb; clear hb) | (refine gB Tryz.func195 (lV.calls A4.out) ?_; intro w62 hb; replace dX := kb dX hb; replace HB := bz HB hb; clear hb) | (refine gV Tryz.func196 (jM.calls A5.out) ?_; rintro adT w63 ⟨ho0, hb⟩; have kT := ak (Kd.aA ho0 (aj bb)); replace dX := kb dX hb; replace HB := bz HB hb; clear hb; (try clear ho0)) | (refine bY HB 12 #[.string (⟨#[]⟩ : ByteArray), .string (⟨#[]⟩ : ByteArray)] 69 ?_; intro nY w64 jX VR hg hb; have kH := AZ dX hg; have sQ := A_ dX hg; replace kT := rb kT hb; replace dX := kb dX hb; replace HB := bz HB hb; clear hb hg; have aBx := sQ.out; have aBy := kH.out; have z66 := zx jX.out; have z67 := jW dX.out))
    refine bodyPost_ret (lM rfl _ _ vU 28 #[.slice none 0 0, .slice none 0 0, .slice none 0 0] (0, 0) _ rfl (by (with_reducible repeat (first | refine dA ?_ _ | refine bn ?_ | refine aX ?_ _)); refine ku (cs := #[.slice none 0 0, .slice none 0 0, .slice none 0 0]) ?_ 2 _ rfl; (with_reducible repeat (first | refine dA ?_ _ | refine bn ?_ | refine aX ?_ _)); refine ku (cs := #[.slice none 0 0, .slice none 0 0, .slice none 0 0]) ?_ 1 _ rfl; (with_reducible repeat (first | refine dA ?_ _ | refine bn ?_ | refine aX ?_ _)); refine ku (cs := #[.slice none 0 0, .slice none 0 0, .slice none 0 0]) ?_ 0 _ rfl; (with_reducible repeat (first | refine dA ?_ _ | refine bn ?_ | refine aX ?_ _)); refine oV ?_ kH.out _; (with_reducible repeat (first | refine dA ?_ _ | refine bn ?_ | refine aX ?_ _)); refine oV ?_ kH.out _; (with_reducible repeat (first | refine dA ?_ _ | refine bn ?_ | refine aX ?_ _)); exact dX.out) Tryz.underlying28 rfl (by kernel_rfl)) rfl ?_
    exact ⟨_, _, _, er, nx, nx, nx, bb⟩
  ·
   obtain ⟨rfl, rfl, rfl, rfl⟩ := s4 H
   go_enter Tryz.func167, Tryz.ntmps167
   go_wp2_with (first | (refine bX HB 4 #[.slice none 0 0, .slice none 0 0, .slice none 0 0] 28 ?_; intro vU w68 dX VQ hb; replace HB := bs HB hb; clear hb) | (refine gB Tryz.func194 (bJ.calls A3.out) ?_; intro w69 hb; replace dX := kb dX hb; replace HB := bz HB hb; clear hb) | (refine gB Tryz.func195 (lV.calls A4.out) ?_; intro w70 hb; replace dX := kb dX hb; replace HB := bz HB hb; clear hb) | (refine gV Tryz.func196 (jM.calls A5.out) ?_; rintro adT w71 ⟨ho0, hb⟩; have kT := ak (Kd.aA ho0 (aj bb)); replace dX := kb dX hb; replace HB := bz HB hb; clear hb; (try clear ho0)) | (refine bY HB 12 #[.string (⟨#[]⟩ : ByteArray), .string (⟨#[]⟩ : ByteArray)] 69 ?_; intro nY w72 jX VR hg hb; have kH := AZ dX hg; have sQ := A_ dX hg; replace kT := rb kT hb; replace dX := kb dX hb; replace HB := bz HB hb; clear hb hg; have aBz := sQ.out; have aBA := kH.out; have z74 := zx jX.out; have z75 := jW dX.out))
   refine bodyPost_ret (lM rfl _ _ vU 28 #[.slice none 0 0, .slice none 0 0, .slice none 0 0] (0, 0) _ rfl (by (with_reducible repeat (first | refine dA ?_ _ | refine bn ?_ | refine aX ?_ _)); refine ku (cs := #[.slice none 0 0, .slice none 0 0, .slice none 0 0]) ?_ 2 _ rfl; (with_reducible repeat (first | refine dA ?_ _ | refine bn ?_ | refine aX ?_ _)); refine ku (cs := #[.slice none 0 0, .slice none 0 0, .slice none 0 0]) ?_ 1 _ rfl; (with_reducible repeat (first | refine dA ?_ _ | refine bn ?_ | refine aX ?_ _)); refine ku (cs := #[.slice none 0 0, .slice none 0 0, .slice none 0 0]) ?_ 0 _ rfl; (with_reducible repeat (first | refine dA ?_ _ | refine bn ?_ | refine aX ?_ _)); refine oV ?_ kH.out _; (with_reducible repeat (first | refine dA ?_ _ | refine bn ?_ | refine aX ?_ _)); refine oV ?_ kH.out _; (with_reducible repeat (first | refine dA ?_ _ | refine bn ?_ | refine aX ?_ _)); exact dX.out) Tryz.underlying28 rfl (by kernel_rfl)) rfl ?_
   exact ⟨_, _, _, er, nx, nx, nx, bb⟩
 ·
  obtain ⟨rfl, rfl, rfl, rfl⟩ := s4 H
  go_enter Tryz.func167, Tryz.ntmps167
  go_wp2_with (first | (refine bX HB 4 #[.slice none 0 0, .slice none 0 0, .slice none 0 0] 28 ?_; intro vU w76 dX VQ hb; replace HB := bs HB hb; clear hb) | (refine gB Tryz.func194 (bJ.calls A3.out) ?_; intro w77 hb; replace dX := kb dX hb; replace HB := bz HB hb; clear hb) | (refine gB Tryz.func195 (lV.calls A4.out) ?_; intro w78 hb; replace dX := kb dX hb; replace HB := bz HB hb; clear hb) | (refine gV Tryz.func196 (jM.calls A5.out) ?_; rintro adT w79 ⟨ho0, hb⟩; have kT := ak (Kd.aA ho0 (aj bb)); replace dX := kb dX hb; replace HB := bz HB hb; clear hb; (try clear ho0)) | (refine bY HB 12 #[.string (⟨#[]⟩ : ByteArray), .string (⟨#[]⟩ : ByteArray)] 69 ?_; intro nY w80 jX VR hg hb; have kH := AZ dX hg; have sQ := A_ dX hg; replace kT := rb kT hb; replace dX := kb dX hb; replace HB := bz HB hb; clear hb hg; have asy := sQ.out; have asz := kH.out; have z82 := zx jX.out; have z83 := jW dX.out))
  refine bodyPost_ret (lM rfl _ _ vU 28 #[.slice none 0 0, .slice none 0 0, .slice none 0 0] (0, 0) _ rfl (by (with_reducible repeat (first | refine dA ?_ _ | refine bn ?_ | refine aX ?_ _)); refine ku (cs := #[.slice none 0 0, .slice none 0 0, .slice none 0 0]) ?_ 2 _ rfl; (with_reducible repeat (first | refine dA ?_ _ | refine bn ?_ | refine aX ?_ _)); refine ku (cs := #[.slice none 0 0, .slice none 0 0, .slice none 0 0]) ?_ 1 _ rfl; (with_reducible repeat (first | refine dA ?_ _ | refine bn ?_ | refine aX ?_ _)); refine ku (cs := #[.slice none 0 0, .slice none 0 0, .slice none 0 0]) ?_ 0 _ rfl; (with_reducible repeat (first | refine dA ?_ _ | refine bn ?_ | refine aX ?_ _)); refine oV ?_ kH.out _; (with_reducible repeat (first | refine dA ?_ _ | refine bn ?_ | refine aX ?_ _)); refine oV ?_ kH.out _; (with_reducible repeat (first | refine dA ?_ _ | refine bn ?_ | refine aX ?_ _)); exact dX.out) Tryz.underlying28 rfl (by kernel_rfl)) rfl ?_
  exact ⟨_, _, _, er, nx, nx, nx, bb⟩
def su.f (k : Nat) (a0 : ByteArray) (a1 : ByteArray) : Option ((List (gY)) × List ByteArray × (List (nG)) × Bool) := (gq.f k a0 a1).bind fun aaj => ((iG.f k aaj.1 aaj.2.1 aaj.2.2.1).bind fun adY => (some (adY.1, adY.2.1, adY.2.2, aaj.2.2.2)))
theorem su.calls {k : Nat} {a0 a1 : ByteArray} {r1 : List (gY)} {r2 : List ByteArray} {r3 : List (nG)} {r4 : Bool} {w : World} (h : su.f k a0 a1 = some (r1, r2, r3, r4)) :
  Calls Tryz.prog 142 #[.string a0, .string a1] w fun e w' => ∃ qj Dq EK : Value, e = .returned (.tuple #[.agg #[qj, Dq, EK], .bool r4]) ∧ Kd.R qJ 69 w' w.heap.size (fun _ => True) qj r1 ∧ Kd.R Kd.string 9 w' w.heap.size (fun _ => True) Dq r2 ∧ Kd.R k28 28 w' w.heap.size (fun k_ => some k_ ≠ (qj : Value).ownBlock ∧ some k_ ≠ (Dq : Value).ownBlock) EK r3 ∧ Below w.heap.size w w' := by
 have CG := Tryz.underlying28
 have HB := ak (Below.refl w.heap.size w)
 unfold su.f at h; have H := h
 clear h
 replace H := bd H
 obtain ⟨⟨VW, VX, XL, aFX⟩, A3, H⟩ := H
 (try dsimp only at H)
 replace H := bd H
 obtain ⟨⟨aym, ayn, ayo⟩, A4, H⟩ := H
 (try dsimp only at H)
 obtain ⟨rfl, rfl, rfl, rfl⟩ := s4 H
 go_enter Tryz.func142, Tryz.ntmps142
 go_wp2_with (first | (refine bX HB 4 #[.slice none 0 0, .slice none 0 0, .slice none 0 0] 28 ?_; intro aak w5 G8 aBB hb; replace HB := bs HB hb; clear hb) | (refine gL 167 11 Tryz.func167 #[.string a0, .string a1] ?_; (with_reducible refine (gq.calls A3.out).mono ?_); rintro e w6 ⟨aFY, aFZ, aF0, rfl, ho0, ho1, ho2, hb⟩; refine ⟨_, rfl, ?_⟩; have JF := ak (Kd.aA ho0 (aj bb)); have JG := ak (Kd.aA ho1 (aj bb)); have MZ := ak (Kd.aA (Kd.nP ho2 (g := aak) (o := .cells #[.slice none 0 0, .slice none 0 0, .slice none 0 0] 28 (0, 0)) (ub G8.out)) (aj bb)); replace G8 := kb G8 hb; replace HB := bz HB hb; clear hb; (try clear ho0); (try clear ho1); (try clear ho2)) | (refine bY HB 6 #[.slice none 0 0, .slice none 0 0, .slice none 0 0] 28 ?_; intro Af w7 adZ aBC hg hb; have abP := AZ G8 hg; have abQ := A_ G8 hg; replace JF := rb JF hb; replace JG := rb JG hb; replace MZ := ak (Kd.nO (Kd.uf (ur MZ.out) Af (Nat.le_of_eq hg.symm)) hb); replace G8 := kb G8 hb; replace HB := bz HB hb; clear hb hg; obtain ⟨Ao8, co8, eo8⟩ := Kd.aN JF.out; subst eo8; have awV := abQ.out; have awW := abP.out; have z10 := jW adZ.out; obtain ⟨CU, Ad, O5⟩ := Kd.aN JG.out; subst O5; obtain ⟨EL, Ey, SQ⟩ := Kd.aN MZ.out; subst SQ) | (refine gL 61 15 Tryz.func61 #[.agg #[.slice Ao8 VW.length co8, .slice CU VX.length Ad, .slice EL XL.length Ey]] ?_; (with_reducible refine (iG.calls ?fG ((Kd.au JF.out).2.1) ?ug ((Kd.au JG.out).2.1) ?uh ((Kd.au MZ.out).2.1) A4.out).mono ?_); (case fG => refine (Kd.au (e := 69) (base := w.heap.size) (ok := fun k_ => True) (n := VW.length) (c := co8) ?_).2.2; exact (rh JF)); (case ug => refine (Kd.au (e := 9) (base := w.heap.size) (ok := fun k_ => True) (n := VX.length) (c := Ad) ?_).2.2; exact (rh JG)); (case uh => refine (Kd.au (e := 28) (base := w.heap.size) (ok := fun k_ => (((some k_ ≠ (.slice Ao8 VW.length co8 : Value).ownBlock ∧ some k_ ≠ (.slice CU VX.length Ad : Value).ownBlock) ∧ k_ ≠ aak) ∧ k_ ≠ Af)) (n := XL.length) (c := Ey) ?_).2.2; exact (ur (Kd.aZ (Kd.iW (p := ⟨Af, 2, none⟩) (Kd.iW (p := ⟨Af, 1, none⟩) (Kd.iW (p := ⟨Af, 0, none⟩) (Kd.aZ MZ.out (fun k_ hk => (⟨hk, hk.2⟩ : _ ∧ k_ ≠ Af))) (fun _ hk => hk.2) (.slice Ao8 VW.length co8)) (fun _ hk => hk.2) (.slice CU VX.length Ad)) (fun _ hk => hk.2) (.slice EL XL.length Ey)) (fun _ h_ => h_.1)))); rintro e w13 ⟨aF1, aF2, aF3, rfl, ho0, ho1, ho2, hb⟩; refine ⟨_, rfl, ?_⟩; have asA := ak (Kd.aA (Kd.gU ho0 (Kd.kX (rh JF))) (aj bb)); have asB := ak (Kd.aA (Kd.gU ho1 (Kd.kX (rh JG))) (aj bb)); have asC := ak (Kd.aA (Kd.nP (Kd.nP (Kd.gU (Kd.gU (Kd.gU ho2 (Kd.kX (rh JF))) (Kd.kX (rh JG))) (Kd.kX (ur (Kd.aZ (Kd.iW (p := ⟨Af, 2, none⟩) (Kd.iW (p := ⟨Af, 1, none⟩) (Kd.iW (p := ⟨Af, 0, none⟩) (Kd.aZ MZ.out (fun k_ hk => (⟨hk, hk.2⟩ : _ ∧ k_ ≠ Af))) (fun _ hk => hk.2) (.slice Ao8 VW.length co8)) (fun _ hk => hk.2) (.slice CU VX.length Ad)) (fun _ hk => hk.2) (.slice EL XL.length Ey)) (fun _ h_ => h_.1))))) (g := aak) (o := .cells #[.slice none 0 0, .slice none 0 0, .slice none 0 0] 28 (0, 0)) bq) (g := Af) (o := .cells #[.slice Ao8 VW.length co8, .slice CU VX.length Ad, .slice EL XL.length Ey] 28 (0, 0)) bq) (aj bb)); replace JF := ak (Kd.fV (rh JF) (Kd.fQ ho0) hb); replace JG := ak (Kd.fV (rh JG) (Kd.fQ ho1) hb); replace MZ := ak (Kd.aZ (Kd.tK (Kd.tK (Kd.tK (Kd.acN (ur (Kd.aZ (Kd.iW (p := ⟨Af, 2, none⟩) (Kd.iW (p := ⟨Af, 1, none⟩) (Kd.iW (p := ⟨Af, 0, none⟩) (Kd.aZ MZ.out (fun k_ hk => (⟨hk, hk.2⟩ : _ ∧ k_ ≠ Af))) (fun _ hk => hk.2) (.slice Ao8 VW.length co8)) (fun _ hk => hk.2) (.slice CU VX.length Ad)) (fun _ hk => hk.2) (.slice EL XL.length Ey)) (fun _ h_ => h_.1))) hb) (Kd.fQ ho0)) (Kd.fQ ho1)) (Kd.fQ ho2)) (fun _ h_ => h_.1)); replace G8 := kp G8 #[.slice none 0 0, .slice none 0 0, .slice none 0 0] hb; replace adZ := kp adZ #[.slice Ao8 VW.length co8, .slice CU VX.length Ad, .slice EL XL.length Ey] hb; replace HB := bz HB hb; clear hb; (try clear ho0); (try clear ho1); (try clear ho2); obtain ⟨QF, OM, SS⟩ := Kd.aN asA.out; subst SS; have z15 := jW G8.out; obtain ⟨VI, VJ, TV⟩ := Kd.aN asB.out; subst TV; obtain ⟨Gv, EZ, Vz⟩ := Kd.aN asC.out; subst Vz))
 refine bodyPost_ret (lM rfl _ _ aak 28 #[.slice QF aym.length OM, .slice VI ayn.length VJ, .slice Gv ayo.length EZ] (0, 0) _ rfl bq Tryz.underlying28 rfl (by kernel_rfl)) rfl ?_
 exact ⟨_, _, _, er, rr, rr, rr, bb⟩
mutual
def iK.l0 : Nat → ByteArray → Int → List Int → Int → Option (ByteArray × Int)
 | 0, _, _, _, _ => none
 | k + 1, x3, x4, x1000, oP => if x4 > 0 then ((fH.f k x1000 oP (([(⟨#[104, 101, 108, 108, 111]⟩ : ByteArray), (⟨#[32]⟩ : ByteArray), (⟨#[61]⟩ : ByteArray), (⟨#[10]⟩ : ByteArray), (⟨#[255, 0]⟩ : ByteArray), (⟨#[99, 97, 102, 195, 169]⟩ : ByteArray), (⟨#[97, 32, 108, 111, 110, 103, 101, 114, 32, 114, 111, 119, 32, 111, 102, 32, 119, 111, 114, 100, 115, 32, 116, 104, 97, 116, 32, 105, 115, 32, 98, 114, 111, 107, 101, 110, 32, 104, 101, 114, 101]⟩ : ByteArray), (⟨#[120]⟩ : ByteArray), (⟨#[46]⟩ : ByteArray), (⟨#[9]⟩ : ByteArray)] : List ByteArray))).bind fun ad1 => (if x3.size + ad1.1.size ≤ 9223372036854775807 then (iK.l0 k (x3 ++ ad1.1) (wrap64 (x4 - 1)) x1000 ad1.2) else (none))) else ((cZ.f k x1000 oP 40).bind fun ad2 => (if ad2.1 = 0 then (iK.l1 k x3 x1000 ad2.2) else (some (x3, ad2.2))))
def iK.l1 : Nat → ByteArray → List Int → Int → Option (ByteArray × Int)
 | 0, _, _, _ => none
 | k + 1, x3, x1000, oP => if (x3.size : Int) ≤ 300 then (if x3.size + 10 ≤ 9223372036854775807 then (iK.l1 k (x3 ++ (⟨#[48, 49, 50, 51, 52, 53, 54, 55, 56, 57]⟩ : ByteArray)) x1000 oP) else (none)) else (some (x3, oP))
end
def iK.f (k : Nat) (eX : List Int) (kK : Int) : Option (ByteArray × Int) := (kG.f k eX kK (([3, 2, 5, 1, 0, 8] : List Int))).bind fun ajO => (iK.l0 k (⟨#[]⟩ : ByteArray) ajO.1 eX ajO.2)
theorem iK.calls {k g : Nat} {eX : List Int} {kK r2 : Int} {r1 : ByteArray} {w : World} (w0 : World) (hI : aK w0 w g eX kK) (hB : Below w0.heap.size w0 w) (h : iK.f k eX kK = some (r1, r2)) :
  Calls Tryz.prog 143 #[.pointer (some ⟨g, 0, none⟩)] w fun e w' => e = .returned (.string r1) ∧ aK w0 w' g eX r2 ∧ Below w0.heap.size w0 w' ∧ aJ w w' g none := by
 have HI0 := ak hI
 have HK := ak (aJ.refl w g none)
 have HL := ak hB.size
 clear hI
 have HW0 := ak hB.size
 have HB := ak hB
 clear hB
 unfold iK.f at h; have H := h
 clear h
 obtain ⟨ayp, ajP⟩ := nm ([3, 2, 5, 1, 0, 8] : List Int)
 rw [← ajP.out] at H
 replace H := bd H
 obtain ⟨⟨aF4, aF5⟩, A2, H⟩ := H
 (try dsimp only at H)
 have H' := ak H; clear H
 go_enter Tryz.func143, Tryz.ntmps143
 go_wp2_with (first | (refine QC 6 (Kd.int .i64) 3 [.int .i64 3, .int .i64 2, .int .i64 5, .int .i64 1, .int .i64 0, .int .i64 8] ajP (dD.one (show Kd.M (Kd.int .i64) _ _ _ 3 [.int .i64 3] from rfl) (dD.one (show Kd.M (Kd.int .i64) _ _ _ 2 [.int .i64 2] from rfl) (dD.one (show Kd.M (Kd.int .i64) _ _ _ 5 [.int .i64 5] from rfl) (dD.one (show Kd.M (Kd.int .i64) _ _ _ 1 [.int .i64 1] from rfl) (dD.one (show Kd.M (Kd.int .i64) _ _ _ 0 [.int .i64 0] from rfl) (dD.one (show Kd.M (Kd.int .i64) _ _ _ 8 [.int .i64 8] from rfl) (dD.none _ _))))))) ?_; intro aF6 w3 Rl hb; have Rq := ak (Kd.aA Rl (dJ (w := w) (g := g) (row := none) (kh HK.out))); replace HK := ak (aJ.trans (kh HK.out) (aJ.of_below hb g none) (.inl rfl)); replace HB := ak (iE oZ hb); replace HI0 := ak (aK.below oW hb); clear hb Rl; obtain ⟨Ao5, co5, eo5⟩ := Kd.aN Rq.out; subst eo5) | (refine gL 97 7 Tryz.func97 #[.pointer (some ⟨g, 0, none⟩), .slice Ao5 ayp.length co5] ?_; (with_reducible refine (kG.calls w0 ?fG ?jc (cu ((Kd.au Rq.out).2.2)) ((Kd.au Rq.out).2.1) (oq (aK.own_ne HI0.out Rq.out (by decide))) A2.out).mono ?_); (case fG => exact oW); (case jc => exact oZ); rintro e w6 ⟨rfl, hi, hb, hk⟩; refine ⟨_, rfl, ?_⟩; replace Rq := ki Rq hk; replace HK := kt HK hk; replace HB := ak (hb); replace HI0 := ak (hi); clear hb; (try clear hk); (try clear hi)))
 go_loopg [3, 4] k (fun kq v3 v4 w' => ∃ (dM : ByteArray) (dW : Int) (xK : Int), v3 = .string dM ∧ v4 = .int .i64 dW ∧ ah (iK.l0 kq dM dW eX xK = some (r1, r2)) ∧ ah (kq ≤ k) ∧ ah (aK w0 w' g eX xK) ∧ ah (aJ w w' g none) ∧ ah (Below w0.heap.size w0 w'))
 case atStart => exact ⟨_, _, _, rs, rs, H', ⟨Nat.le_refl _⟩, ⟨oW⟩, ⟨kh HK.out⟩, ⟨oZ⟩⟩
 case round =>
  clear H'
  obtain ⟨dM, dW, xK, rfl, rfl, HA, xu, HI0, HK, HB⟩ := hrel
  cases gk with
  | zero => exact zz HA.out
  | succ k1 =>
   obtain ⟨H⟩ := HA
   simp only [iK.l0] at H
   replace H := sp H
   rcases H with ⟨c7, H⟩ | ⟨c7, H⟩
   ·
    have rY : decide (0 < dW) = true := decide_eq_true c7
    clear c7
    obtain ⟨ayq, ajQ⟩ := nm ([(⟨#[104, 101, 108, 108, 111]⟩ : ByteArray), (⟨#[32]⟩ : ByteArray), (⟨#[61]⟩ : ByteArray), (⟨#[10]⟩ : ByteArray), (⟨#[255, 0]⟩ : ByteArray), (⟨#[99, 97, 102, 195, 169]⟩ : ByteArray), (⟨#[97, 32, 108, 111, 110, 103, 101, 114, 32, 114, 111, 119, 32, 111, 102, 32, 119, 111, 114, 100, 115, 32, 116, 104, 97, 116, 32, 105, 115, 32, 98, 114, 111, 107, 101, 110, 32, 104, 101, 114, 101]⟩ : ByteArray), (⟨#[120]⟩ : ByteArray), (⟨#[46]⟩ : ByteArray), (⟨#[9]⟩ : ByteArray)] : List ByteArray)
    rw [← ajQ.out] at H
    replace H := bd H
    obtain ⟨⟨ayr, aF7⟩, A8, H⟩ := H
    (try dsimp only at H)
    replace H := nn H; obtain ⟨c9, H⟩ := H
    have xU := eq_true c9
    have EX := decide_eq_true c9
    try have aqD : (9223372036854775807 < dM.size + ayr.size) = False := eq_false (Nat.not_lt.2 c9)
    have H' := ak H; clear H
    go_wp2_with (first | (refine QC 14 Kd.string 9 [.string (⟨#[104, 101, 108, 108, 111]⟩ : ByteArray), .string (⟨#[32]⟩ : ByteArray), .string (⟨#[61]⟩ : ByteArray), .string (⟨#[10]⟩ : ByteArray), .string (⟨#[255, 0]⟩ : ByteArray), .string (⟨#[99, 97, 102, 195, 169]⟩ : ByteArray), .string (⟨#[97, 32, 108, 111, 110, 103, 101, 114, 32, 114, 111, 119, 32, 111, 102, 32, 119, 111, 114, 100, 115, 32, 116, 104, 97, 116, 32, 105, 115, 32, 98, 114, 111, 107, 101, 110, 32, 104, 101, 114, 101]⟩ : ByteArray), .string (⟨#[120]⟩ : ByteArray), .string (⟨#[46]⟩ : ByteArray), .string (⟨#[9]⟩ : ByteArray)] ajQ (dD.one (show Kd.M Kd.string _ _ _ (⟨#[104, 101, 108, 108, 111]⟩ : ByteArray) [.string (⟨#[104, 101, 108, 108, 111]⟩ : ByteArray)] from rfl) (dD.one (show Kd.M Kd.string _ _ _ (⟨#[32]⟩ : ByteArray) [.string (⟨#[32]⟩ : ByteArray)] from rfl) (dD.one (show Kd.M Kd.string _ _ _ (⟨#[61]⟩ : ByteArray) [.string (⟨#[61]⟩ : ByteArray)] from rfl) (dD.one (show Kd.M Kd.string _ _ _ (⟨#[10]⟩ : ByteArray) [.string (⟨#[10]⟩ : ByteArray)] from rfl) (dD.one (show Kd.M Kd.string _ _ _ (⟨#[255, 0]⟩ : ByteArray) [.string (⟨#[255, 0]⟩ : ByteArray)] from rfl) (dD.one (show Kd.M Kd.string _ _ _ (⟨#[99, 97, 102, 195, 169]⟩ : ByteArray) [.string (⟨#[99, 97, 102, 195, 169]⟩ : ByteArray)] from rfl) (dD.one (show Kd.M Kd.string _ _ _ (⟨#[97, 32, 108, 111, 110, 103, 101, 114, 32, 114, 111, 119, 32, 111, 102, 32, 119, 111, 114, 100, 115, 32, 116, 104, 97, 116, 32, 105, 115, 32, 98, 114, 111, 107, 101, 110, 32, 104, 101, 114, 101]⟩ : ByteArray) [.string (⟨#[97, 32, 108, 111, 110, 103, 101, 114, 32, 114, 111, 119, 32, 111, 102, 32, 119, 111, 114, 100, 115, 32, 116, 104, 97, 116, 32, 105, 115, 32, 98, 114, 111, 107, 101, 110, 32, 104, 101, 114, 101]⟩ : ByteArray)] from rfl) (dD.one (show Kd.M Kd.string _ _ _ (⟨#[120]⟩ : ByteArray) [.string (⟨#[120]⟩ : ByteArray)] from rfl) (dD.one (show Kd.M Kd.string _ _ _ (⟨#[46]⟩ : ByteArray) [.string (⟨#[46]⟩ : ByteArray)] from rfl) (dD.one (show Kd.M Kd.string _ _ _ (⟨#[9]⟩ : ByteArray) [.string (⟨#[9]⟩ : ByteArray)] from rfl) (dD.none _ _))))))))))) ?_; intro aF8 w10 asD hb; have Rt := ak (Kd.aA asD (dJ (w := w) (g := g) (row := none) (kh HK.out))); replace HK := ak (aJ.trans (kh HK.out) (aJ.of_below hb g none) (.inl rfl)); replace HB := ak (iE oZ hb); replace HI0 := ak (aK.below oW hb); clear hb asD; obtain ⟨EL, Ey, SQ⟩ := Kd.aN Rt.out; subst SQ) | (refine gL 58 15 Tryz.func58 #[.pointer (some ⟨g, 0, none⟩), .slice EL ayq.length Ey] ?_; (with_reducible refine (fH.calls w0 ?fG ?jc (cu ((Kd.au Rt.out).2.2)) ((Kd.au Rt.out).2.1) (oq (aK.own_ne HI0.out Rt.out (by decide))) A8.out).mono ?_); (case fG => exact oW); (case jc => exact oZ); rintro e w13 ⟨rfl, hi, hb, hk⟩; refine ⟨_, rfl, ?_⟩; replace Rt := ki Rt hk; replace HK := kt HK hk; replace HB := ak (hb); replace HI0 := ak (hi); clear hb; (try clear hk); (try clear hi)))
    go_roundg k1
    case measure => exact kl
    case rel => exact ⟨_, _, _, rs, rs, H', ⟨kl⟩, ⟨oW⟩, ⟨kh HK.out⟩, ⟨oZ⟩⟩
   ·
    have rY : decide (0 < dW) = false := decide_eq_false c7
    clear c7
    replace H := bd H
    obtain ⟨⟨aF9, asE⟩, A14, H⟩ := H
    (try dsimp only at H)
    replace H := sq H
    rcases H with ⟨vT, ES, H⟩ | ⟨c15, vT, ES, H⟩
    ·
     have H' := ak H; clear H
     go_wp2_with (refine gL 57 18 Tryz.func57 #[.pointer (some ⟨g, 0, none⟩), .int .i64 40] ?_; (with_reducible refine (cZ.calls w0 ?fG ?jc A14.out).mono ?_); (case fG => exact oW); (case jc => exact oZ); rintro e w16 ⟨rfl, hi, hb, hk⟩; refine ⟨_, rfl, ?_⟩; replace HK := kt HK hk; replace HB := ak (hb); replace HI0 := ak (hi); clear hb; (try clear hk); (try clear hi))
     go_loopg [3] k1 (fun kq v3 w' => ∃ (lF : ByteArray), v3 = .string lF ∧ ah (iK.l1 kq lF eX asE = some (r1, r2)) ∧ ah (kq ≤ k1) ∧ ah (aK w0 w' g eX asE) ∧ ah (aJ w w' g none) ∧ ah (Below w0.heap.size w0 w'))
     case atStart => exact ⟨_, rs, H', ⟨Nat.le_refl _⟩, ⟨oW⟩, ⟨kh HK.out⟩, ⟨oZ⟩⟩
     case round =>
      clear H'
      try clear c7
      try clear rY
      try clear c15
      try clear vT
      try clear ES
      obtain ⟨lF, rfl, HA, HK2, HI0, HK, HB⟩ := hrel
      cases gk with
      | zero => exact zz HA.out
      | succ k2 =>
       obtain ⟨H⟩ := HA
       simp only [iK.l1] at H
       replace H := sp H
       rcases H with ⟨c17, H⟩ | ⟨c17, H⟩
       ·
        have tq := decide_eq_true c17
        have MJ : decide (lF.size ≤ 300) = true := decide_eq_true (by omega)
        clear c17
        replace H := nn H; obtain ⟨c18, H⟩ := H
        have zC := eq_true c18
        have OT := decide_eq_true c18
        try have aiB : (9223372036854775807 < lF.size + 10) = False := eq_false (Nat.not_lt.2 c18)
        have H' := ak H; clear H
        go_wp2
        go_roundg k2
        case measure => exact kl
        case rel => exact ⟨_, rs, H', ⟨kl⟩, ⟨oW⟩, ⟨kh HK.out⟩, ⟨oZ⟩⟩
       ·
        have tq := decide_eq_false c17
        have MJ : decide (lF.size ≤ 300) = false := decide_eq_false (by omega)
        clear c17
        obtain ⟨rfl, rfl⟩ := s2 H
        go_wp2
        go_ret
        exact ⟨er, oW, oZ, kh HK.out⟩
    ·
     obtain ⟨rfl, rfl⟩ := s2 H
     go_wp2_with (refine gL 57 18 Tryz.func57 #[.pointer (some ⟨g, 0, none⟩), .int .i64 40] ?_; (with_reducible refine (cZ.calls w0 ?fG ?jc A14.out).mono ?_); (case fG => exact oW); (case jc => exact oZ); rintro e Xq ⟨rfl, hi, hb, hk⟩; refine ⟨_, rfl, ?_⟩; replace HK := kt HK hk; replace HB := ak (hb); replace HI0 := ak (hi); clear hb; (try clear hk); (try clear hi))
     go_ret
     exact ⟨er, oW, oZ, kh HK.out⟩
def uZ.f (k : Nat) (eX : List Int) (kK : Int) : Option (ByteArray × ByteArray × Int) := (fH.f k eX kK (([(⟨#[84, 111]⟩ : ByteArray), (⟨#[70, 114, 111, 109]⟩ : ByteArray), (⟨#[83, 117, 98, 106, 101, 99, 116]⟩ : ByteArray), (⟨#[88, 45, 89]⟩ : ByteArray), (⟨#[82, 101, 99, 101, 105, 118, 101, 100]⟩ : ByteArray), (⟨#[116, 111]⟩ : ByteArray), (⟨#[68, 97, 116, 101]⟩ : ByteArray)] : List ByteArray))).bind fun ajR => ((fH.f k eX ajR.2 (([(⟨#[]⟩ : ByteArray), (⟨#[120]⟩ : ByteArray), (⟨#[97, 32, 98]⟩ : ByteArray), (⟨#[104, 101, 108, 108, 111, 32, 116, 104, 101, 114, 101, 44, 32, 116, 104, 105, 115, 32, 105, 115, 32, 97, 32, 108, 111, 110, 103, 101, 114, 32, 118, 97, 108, 117, 101, 32, 116, 104, 97, 116, 32, 105, 115, 32, 98, 114, 111, 107, 101, 110]⟩ : ByteArray), (⟨#[97, 97, 97, 97, 97, 97, 97, 97, 97, 97, 97, 97, 97, 97, 97, 97, 97, 97, 97, 97, 97, 97, 97, 97, 97, 97, 97, 97, 97, 97, 97, 97, 97, 97, 97, 97, 97, 97, 97, 97, 97, 97, 97, 97, 97, 97, 97, 97, 97, 97, 97, 32, 98]⟩ : ByteArray), (⟨#[116, 119, 111, 32, 32, 115, 112, 97, 99, 101, 115, 32, 115, 116, 97, 121, 32, 32, 116, 111, 103, 101, 116, 104, 101, 114, 32, 105, 110, 32, 104, 101, 114, 101, 44, 32, 97, 110, 100, 32, 115, 111, 32, 100, 111, 32, 116, 104, 101, 115, 101, 32, 32, 111, 110, 101, 115]⟩ : ByteArray), (⟨#[97, 58, 98]⟩ : ByteArray), (⟨#[111, 110, 101, 32, 116, 119, 111, 32, 116, 104, 114, 101, 101, 32, 102, 111, 117, 114, 32, 102, 105, 118, 101, 32, 115, 105, 120, 32, 115, 101, 118, 101, 110, 32, 101, 105, 103, 104, 116, 32, 110, 105, 110, 101, 32, 116, 101, 110, 32, 101, 108, 101, 118, 101, 110]⟩ : ByteArray)] : List ByteArray))).bind fun ajS => (some (ajR.1, ajS.1, ajS.2)))
theorem uZ.calls {k g : Nat} {eX : List Int} {kK r3 : Int} {r1 r2 : ByteArray} {w : World} (w0 : World) (hI : aK w0 w g eX kK) (hB : Below w0.heap.size w0 w) (h : uZ.f k eX kK = some (r1, r2, r3)) :
  Calls Tryz.prog 168 #[.pointer (some ⟨g, 0, none⟩)] w fun e w' => e = .returned (.agg #[.string r1, .string r2]) ∧ aK w0 w' g eX r3 ∧ Below w0.heap.size w0 w' ∧ aJ w w' g none := by
 have Dt := Tryz.underlying69
 have HI0 := ak hI
 have HK := ak (aJ.refl w g none)
 have HL := ak hB.size
 clear hI
 have HW0 := ak hB.size
 have HB := ak hB
 clear hB
 unfold uZ.f at h; have H := h
 clear h
 obtain ⟨ays, ajT⟩ := nm ([(⟨#[84, 111]⟩ : ByteArray), (⟨#[70, 114, 111, 109]⟩ : ByteArray), (⟨#[83, 117, 98, 106, 101, 99, 116]⟩ : ByteArray), (⟨#[88, 45, 89]⟩ : ByteArray), (⟨#[82, 101, 99, 101, 105, 118, 101, 100]⟩ : ByteArray), (⟨#[116, 111]⟩ : ByteArray), (⟨#[68, 97, 116, 101]⟩ : ByteArray)] : List ByteArray)
 rw [← ajT.out] at H
 replace H := bd H
 obtain ⟨⟨ayt, aF_⟩, A2, H⟩ := H
 (try dsimp only at H)
 obtain ⟨ayu, ajU⟩ := nm ([(⟨#[]⟩ : ByteArray), (⟨#[120]⟩ : ByteArray), (⟨#[97, 32, 98]⟩ : ByteArray), (⟨#[104, 101, 108, 108, 111, 32, 116, 104, 101, 114, 101, 44, 32, 116, 104, 105, 115, 32, 105, 115, 32, 97, 32, 108, 111, 110, 103, 101, 114, 32, 118, 97, 108, 117, 101, 32, 116, 104, 97, 116, 32, 105, 115, 32, 98, 114, 111, 107, 101, 110]⟩ : ByteArray), (⟨#[97, 97, 97, 97, 97, 97, 97, 97, 97, 97, 97, 97, 97, 97, 97, 97, 97, 97, 97, 97, 97, 97, 97, 97, 97, 97, 97, 97, 97, 97, 97, 97, 97, 97, 97, 97, 97, 97, 97, 97, 97, 97, 97, 97, 97, 97, 97, 97, 97, 97, 97, 32, 98]⟩ : ByteArray), (⟨#[116, 119, 111, 32, 32, 115, 112, 97, 99, 101, 115, 32, 115, 116, 97, 121, 32, 32, 116, 111, 103, 101, 116, 104, 101, 114, 32, 105, 110, 32, 104, 101, 114, 101, 44, 32, 97, 110, 100, 32, 115, 111, 32, 100, 111, 32, 116, 104, 101, 115, 101, 32, 32, 111, 110, 101, 115]⟩ : ByteArray), (⟨#[97, 58, 98]⟩ : ByteArray), (⟨#[111, 110, 101, 32, 116, 119, 111, 32, 116, 104, 114, 101, 101, 32, 102, 111, 117, 114, 32, 102, 105, 118, 101, 32, 115, 105, 120, 32, 115, 101, 118, 101, 110, 32, 101, 105, 103, 104, 116, 32, 110, 105, 110, 101, 32, 116, 101, 110, 32, 101, 108, 101, 118, 101, 110]⟩ : ByteArray)] : List ByteArray)
 rw [← ajU.out] at H
 replace H := bd H
 obtain ⟨⟨ayv, aGa⟩, A3, H⟩ := H
 (try dsimp only at H)
 obtain ⟨rfl, rfl, rfl⟩ := s3 H
 go_enter Tryz.func168, Tryz.ntmps168
 go_wp2_with (first | (refine bS HI0 HK HB HW0 2 #[.string (⟨#[]⟩ : ByteArray), .string (⟨#[]⟩ : ByteArray)] 69 ?_; clear HI0 HK HB; intro asF w4 JH aBD aBE ahi Ud hg hb HI0 HK HB; clear hb hg) | (refine QC 4 Kd.string 9 [.string (⟨#[84, 111]⟩ : ByteArray), .string (⟨#[70, 114, 111, 109]⟩ : ByteArray), .string (⟨#[83, 117, 98, 106, 101, 99, 116]⟩ : ByteArray), .string (⟨#[88, 45, 89]⟩ : ByteArray), .string (⟨#[82, 101, 99, 101, 105, 118, 101, 100]⟩ : ByteArray), .string (⟨#[116, 111]⟩ : ByteArray), .string (⟨#[68, 97, 116, 101]⟩ : ByteArray)] ajT (dD.one (show Kd.M Kd.string _ _ _ (⟨#[84, 111]⟩ : ByteArray) [.string (⟨#[84, 111]⟩ : ByteArray)] from rfl) (dD.one (show Kd.M Kd.string _ _ _ (⟨#[70, 114, 111, 109]⟩ : ByteArray) [.string (⟨#[70, 114, 111, 109]⟩ : ByteArray)] from rfl) (dD.one (show Kd.M Kd.string _ _ _ (⟨#[83, 117, 98, 106, 101, 99, 116]⟩ : ByteArray) [.string (⟨#[83, 117, 98, 106, 101, 99, 116]⟩ : ByteArray)] from rfl) (dD.one (show Kd.M Kd.string _ _ _ (⟨#[88, 45, 89]⟩ : ByteArray) [.string (⟨#[88, 45, 89]⟩ : ByteArray)] from rfl) (dD.one (show Kd.M Kd.string _ _ _ (⟨#[82, 101, 99, 101, 105, 118, 101, 100]⟩ : ByteArray) [.string (⟨#[82, 101, 99, 101, 105, 118, 101, 100]⟩ : ByteArray)] from rfl) (dD.one (show Kd.M Kd.string _ _ _ (⟨#[116, 111]⟩ : ByteArray) [.string (⟨#[116, 111]⟩ : ByteArray)] from rfl) (dD.one (show Kd.M Kd.string _ _ _ (⟨#[68, 97, 116, 101]⟩ : ByteArray) [.string (⟨#[68, 97, 116, 101]⟩ : ByteArray)] from rfl) (dD.none _ _)))))))) ?_; intro aGb w5 ZH hb; have E_ := ak (Kd.aA ZH (dJ (w := w) (g := g) (row := none) (kh HK.out))); replace JH := kb JH hb; replace HK := ak (aJ.trans (kh HK.out) (aJ.of_below hb g none) (.inl rfl)); replace HB := ak (iE oZ hb); replace HI0 := ak (aK.below oW hb); clear hb ZH; obtain ⟨Ao7, co7, eo7⟩ := Kd.aN E_.out; subst eo7) | (refine gL 58 5 Tryz.func58 #[.pointer (some ⟨g, 0, none⟩), .slice Ao7 ays.length co7] ?_; (with_reducible refine (fH.calls w0 ?fG ?jc (cu ((Kd.au E_.out).2.2)) ((Kd.au E_.out).2.1) (oq (aK.own_ne HI0.out E_.out (by decide))) A2.out).mono ?_); (case fG => exact oW); (case jc => exact oZ); rintro e w8 ⟨rfl, hi, hb, hk⟩; refine ⟨_, rfl, ?_⟩; replace JH := kc JH hk Ud; replace E_ := ki E_ hk; replace HK := kt HK hk; replace HB := ak (hb); replace HI0 := ak (hi); clear hb; (try clear hk); (try clear hi)) | (refine QC 7 Kd.string 9 [.string (⟨#[]⟩ : ByteArray), .string (⟨#[120]⟩ : ByteArray), .string (⟨#[97, 32, 98]⟩ : ByteArray), .string (⟨#[104, 101, 108, 108, 111, 32, 116, 104, 101, 114, 101, 44, 32, 116, 104, 105, 115, 32, 105, 115, 32, 97, 32, 108, 111, 110, 103, 101, 114, 32, 118, 97, 108, 117, 101, 32, 116, 104, 97, 116, 32, 105, 115, 32, 98, 114, 111, 107, 101, 110]⟩ : ByteArray), .string (⟨#[97, 97, 97, 97, 97, 97, 97, 97, 97, 97, 97, 97, 97, 97, 97, 97, 97, 97, 97, 97, 97, 97, 97, 97, 97, 97, 97, 97, 97, 97, 97, 97, 97, 97, 97, 97, 97, 97, 97, 97, 97, 97, 97, 97, 97, 97, 97, 97, 97, 97, 97, 32, 98]⟩ : ByteArray), .string (⟨#[116, 119, 111, 32, 32, 115, 112, 97, 99, 101, 115, 32, 115, 116, 97, 121, 32, 32, 116, 111, 103, 101, 116, 104, 101, 114, 32, 105, 110, 32, 104, 101, 114, 101, 44, 32, 97, 110, 100, 32, 115, 111, 32, 100, 111, 32, 116, 104, 101, 115, 101, 32, 32, 111, 110, 101, 115]⟩ : ByteArray), .string (⟨#[97, 58, 98]⟩ : ByteArray), .string (⟨#[111, 110, 101, 32, 116, 119, 111, 32, 116, 104, 114, 101, 101, 32, 102, 111, 117, 114, 32, 102, 105, 118, 101, 32, 115, 105, 120, 32, 115, 101, 118, 101, 110, 32, 101, 105, 103, 104, 116, 32, 110, 105, 110, 101, 32, 116, 101, 110, 32, 101, 108, 101, 118, 101, 110]⟩ : ByteArray)] ajU (dD.one (show Kd.M Kd.string _ _ _ (⟨#[]⟩ : ByteArray) [.string (⟨#[]⟩ : ByteArray)] from rfl) (dD.one (show Kd.M Kd.string _ _ _ (⟨#[120]⟩ : ByteArray) [.string (⟨#[120]⟩ : ByteArray)] from rfl) (dD.one (show Kd.M Kd.string _ _ _ (⟨#[97, 32, 98]⟩ : ByteArray) [.string (⟨#[97, 32, 98]⟩ : ByteArray)] from rfl) (dD.one (show Kd.M Kd.string _ _ _ (⟨#[104, 101, 108, 108, 111, 32, 116, 104, 101, 114, 101, 44, 32, 116, 104, 105, 115, 32, 105, 115, 32, 97, 32, 108, 111, 110, 103, 101, 114, 32, 118, 97, 108, 117, 101, 32, 116, 104, 97, 116, 32, 105, 115, 32, 98, 114, 111, 107, 101, 110]⟩ : ByteArray) [.string (⟨#[104, 101, 108, 108, 111, 32, 116, 104, 101, 114, 101, 44, 32, 116, 104, 105, 115, 32, 105, 115, 32, 97, 32, 108, 111, 110, 103, 101, 114, 32, 118, 97, 108, 117, 101, 32, 116, 104, 97, 116, 32, 105, 115, 32, 98, 114, 111, 107, 101, 110]⟩ : ByteArray)] from rfl) (dD.one (show Kd.M Kd.string _ _ _ (⟨#[97, 97, 97, 97, 97, 97, 97, 97, 97, 97, 97, 97, 97, 97, 97, 97, 97, 97, 97, 97, 97, 97, 97, 97, 97, 97, 97, 97, 97, 97, 97, 97, 97, 97, 97, 97, 97, 97, 97, 97, 97, 97, 97, 97, 97, 97, 97, 97, 97, 97, 97, 32, 98]⟩ : ByteArray) [.string (⟨#[97, 97, 97, 97, 97, 97, 97, 97, 97, 97, 97, 97, 97, 97, 97, 97, 97, 97, 97, 97, 97, 97, 97, 97, 97, 97, 97, 97, 97, 97, 97, 97, 97, 97, 97, 97, 97, 97, 97, 97, 97, 97, 97, 97, 97, 97, 97, 97, 97, 97, 97, 32, 98]⟩ : ByteArray)] from rfl) (dD.one (show Kd.M Kd.string _ _ _ (⟨#[116, 119, 111, 32, 32, 115, 112, 97, 99, 101, 115, 32, 115, 116, 97, 121, 32, 32, 116, 111, 103, 101, 116, 104, 101, 114, 32, 105, 110, 32, 104, 101, 114, 101, 44, 32, 97, 110, 100, 32, 115, 111, 32, 100, 111, 32, 116, 104, 101, 115, 101, 32, 32, 111, 110, 101, 115]⟩ : ByteArray) [.string (⟨#[116, 119, 111, 32, 32, 115, 112, 97, 99, 101, 115, 32, 115, 116, 97, 121, 32, 32, 116, 111, 103, 101, 116, 104, 101, 114, 32, 105, 110, 32, 104, 101, 114, 101, 44, 32, 97, 110, 100, 32, 115, 111, 32, 100, 111, 32, 116, 104, 101, 115, 101, 32, 32, 111, 110, 101, 115]⟩ : ByteArray)] from rfl) (dD.one (show Kd.M Kd.string _ _ _ (⟨#[97, 58, 98]⟩ : ByteArray) [.string (⟨#[97, 58, 98]⟩ : ByteArray)] from rfl) (dD.one (show Kd.M Kd.string _ _ _ (⟨#[111, 110, 101, 32, 116, 119, 111, 32, 116, 104, 114, 101, 101, 32, 102, 111, 117, 114, 32, 102, 105, 118, 101, 32, 115, 105, 120, 32, 115, 101, 118, 101, 110, 32, 101, 105, 103, 104, 116, 32, 110, 105, 110, 101, 32, 116, 101, 110, 32, 101, 108, 101, 118, 101, 110]⟩ : ByteArray) [.string (⟨#[111, 110, 101, 32, 116, 119, 111, 32, 116, 104, 114, 101, 101, 32, 102, 111, 117, 114, 32, 102, 105, 118, 101, 32, 115, 105, 120, 32, 115, 101, 118, 101, 110, 32, 101, 105, 103, 104, 116, 32, 110, 105, 110, 101, 32, 116, 101, 110, 32, 101, 108, 101, 118, 101, 110]⟩ : ByteArray)] from rfl) (dD.none _ _))))))))) ?_; intro aGc w9 NM hb; have Ru := ak (Kd.aA (Kd.gU NM (Kd.kX (ur E_.out))) (dJ (w := w) (g := g) (row := none) (kh HK.out))); replace E_ := ak (Kd.fV (ur E_.out) (Kd.fQ NM) hb); replace JH := kb JH hb; replace HK := ak (aJ.trans (kh HK.out) (aJ.of_below hb g none) (.inl rfl)); replace HB := ak (iE oZ hb); replace HI0 := ak (aK.below oW hb); clear hb NM; obtain ⟨CU, Ad, O5⟩ := Kd.aN Ru.out; subst O5) | (refine gL 58 8 Tryz.func58 #[.pointer (some ⟨g, 0, none⟩), .slice CU ayu.length Ad] ?_; (with_reducible refine (fH.calls w0 ?fG ?jc (cu ((Kd.au Ru.out).2.2)) ((Kd.au Ru.out).2.1) (oq (aK.own_ne HI0.out Ru.out (by decide))) A3.out).mono ?_); (case fG => exact oW); (case jc => exact oZ); rintro e w12 ⟨rfl, hi, hb, hk⟩; refine ⟨_, rfl, ?_⟩; replace JH := kc JH hk Ud; replace E_ := ki E_ hk; replace Ru := ki Ru hk; replace HK := kt HK hk; replace HB := ak (hb); replace HI0 := ak (hi); clear hb; (try clear hk); (try clear hi); have aiS := Ud.out; have aiT := ahi.out; have z14 := zx JH.out))
 refine bodyPost_ret (results_cell_row rfl _ _ asF 69 #[.string ayt, .string ayv] (0, 0) _ rfl bq Tryz.underlying69 rfl (by kernel_rfl)) rfl ?_
 exact ⟨er, oW, oZ, kh HK.out⟩
def lS.l0 : Nat → List (gY) → Int → List Int → Int → Option ((List (gY)) × Int)
 | 0, _, _, _, _ => none
 | k + 1, x3, x4, x1000, oP => if x4 > 0 then ((uZ.f k x1000 oP).bind fun ad3 => (if x3.length < 4398046511104 then (lS.l0 k (x3 ++ [(⟨ad3.1, ad3.2.1⟩ : gY)]) (wrap64 (x4 - 1)) x1000 ad3.2.2) else (none))) else (some (x3, oP))
def lS.f (k : Nat) (eX : List Int) (kK : Int) : Option ((List (gY)) × Int) := (kG.f k eX kK (([2, 3, 1, 0, 4] : List Int))).bind fun ajV => (lS.l0 k (([] : List (gY))) ajV.1 eX ajV.2)
theorem lS.calls {k g : Nat} {eX : List Int} {kK r2 : Int} {r1 : List (gY)} {w : World} (w0 : World) (hI : aK w0 w g eX kK) (hB : Below w0.heap.size w0 w) (h : lS.f k eX kK = some (r1, r2)) :
  Calls Tryz.prog 144 #[.pointer (some ⟨g, 0, none⟩)] w fun e w' => ∃ qj : Value, e = .returned (qj) ∧ Kd.R qJ 69 w' w.heap.size (fun _ => True) qj r1 ∧ aK w0 w' g eX r2 ∧ Below w0.heap.size w0 w' ∧ aJ w w' g none := by
 have HI0 := ak hI
 have HK := ak (aJ.refl w g none)
 have HL := ak hB.size
 clear hI
 have HW0 := ak hB.size
 have HB := ak hB
 clear hB
 unfold lS.f at h; have H := h
 clear h
 obtain ⟨aGd, ajW⟩ := nm ([] : List (gY))
 rw [← ajW.out] at H
 obtain ⟨ayw, ajX⟩ := nm ([2, 3, 1, 0, 4] : List Int)
 rw [← ajX.out] at H
 replace H := bd H
 obtain ⟨⟨aGe, aGf⟩, A2, H⟩ := H
 (try dsimp only at H)
 have H' := ak H; clear H
 go_enter Tryz.func144, Tryz.ntmps144
 go_wp2_with (first | (refine GN 5 qJ 69 ajW ?_; intro aGg w3 Rl hb; have VY := ak (Kd.aA Rl (dJ (w := w) (g := g) (row := none) (kh HK.out))); replace HK := ak (aJ.trans (kh HK.out) (aJ.of_below hb g none) (.inl rfl)); replace HB := ak (iE oZ hb); replace HI0 := ak (aK.below oW hb); clear hb Rl) | (refine QC 7 (Kd.int .i64) 3 [.int .i64 2, .int .i64 3, .int .i64 1, .int .i64 0, .int .i64 4] ajX (dD.one (show Kd.M (Kd.int .i64) _ _ _ 2 [.int .i64 2] from rfl) (dD.one (show Kd.M (Kd.int .i64) _ _ _ 3 [.int .i64 3] from rfl) (dD.one (show Kd.M (Kd.int .i64) _ _ _ 1 [.int .i64 1] from rfl) (dD.one (show Kd.M (Kd.int .i64) _ _ _ 0 [.int .i64 0] from rfl) (dD.one (show Kd.M (Kd.int .i64) _ _ _ 4 [.int .i64 4] from rfl) (dD.none _ _)))))) ?_; intro aGh w5 ZH hb; have Rw := ak (Kd.aA ZH (dJ (w := w) (g := g) (row := none) (kh HK.out))); replace VY := rb VY hb; replace HK := ak (aJ.trans (kh HK.out) (aJ.of_below hb g none) (.inl rfl)); replace HB := ak (iE oZ hb); replace HI0 := ak (aK.below oW hb); clear hb ZH; obtain ⟨Ao7, co7, eo7⟩ := Kd.aN Rw.out; subst eo7) | (refine gL 97 8 Tryz.func97 #[.pointer (some ⟨g, 0, none⟩), .slice Ao7 ayw.length co7] ?_; (with_reducible refine (kG.calls w0 ?fG ?jc (cu ((Kd.au Rw.out).2.2)) ((Kd.au Rw.out).2.1) (oq (aK.own_ne HI0.out Rw.out (by decide))) A2.out).mono ?_); (case fG => exact oW); (case jc => exact oZ); rintro e w8 ⟨rfl, hi, hb, hk⟩; refine ⟨_, rfl, ?_⟩; replace VY := ki VY hk; replace Rw := ki Rw hk; replace HK := kt HK hk; replace HB := ak (hb); replace HI0 := ak (hi); clear hb; (try clear hk); (try clear hi)))
 go_loopg [3, 4] k (fun kq v3 v4 w' => ∃ (dM : List (gY)) (dW : Int) (xK : Int), v4 = .int .i64 dW ∧ ah (lS.l0 kq dM dW eX xK = some (r1, r2)) ∧ ah (kq ≤ k) ∧ ah (Kd.R qJ 69 w' w.heap.size (fun _ => True) v3 dM) ∧ ah (aK w0 w' g eX xK) ∧ ah (aJ w w' g none) ∧ ah (Below w0.heap.size w0 w'))
 case atStart => exact ⟨_, _, _, rs, H', ⟨Nat.le_refl _⟩, ⟨ur VY.out⟩, ⟨oW⟩, ⟨kh HK.out⟩, ⟨oZ⟩⟩
 case round =>
  clear H'
  obtain ⟨dM, dW, xK, rfl, HA, xu, oU, HI0, HK, HB⟩ := hrel
  cases gk with
  | zero => exact zz HA.out
  | succ k1 =>
   obtain ⟨H⟩ := HA
   simp only [lS.l0] at H
   replace H := sp H
   rcases H with ⟨c9, H⟩ | ⟨c9, H⟩
   ·
    have xU : decide (0 < dW) = true := decide_eq_true c9
    clear c9
    replace H := bd H
    obtain ⟨⟨ahj, ahk, aGi⟩, U5, H⟩ := H
    (try dsimp only at H)
    replace H := nl H; obtain ⟨O9, H⟩ := H
    obtain ⟨aGj, ajY⟩ := nm (dM ++ [(⟨ahj, ahk⟩ : gY)])
    rw [← ajY.out] at H
    have H' := ak H; clear H
    go_wp2_with (first | (refine gL 168 15 Tryz.func168 #[.pointer (some ⟨g, 0, none⟩)] ?_; (with_reducible refine (uZ.calls w0 ?fG ?jc U5.out).mono ?_); (case fG => exact oW); (case jc => exact oZ); rintro e w12 ⟨rfl, hi, hb, hk⟩; refine ⟨_, rfl, ?_⟩; replace oU := ki oU hk; replace HK := kt HK hk; replace HB := ak (hb); replace HI0 := ak (hi); clear hb; (try clear hk); (try clear hi)) | ((with_reducible refine dZ (b := .append) (xs := #[.tmp 13, .tmp 16]) rfl ?_); at_builtin; refine Kd.pY qJ w.heap.size rfl (.tmp 13) (.tmp 16) 25 69 (.agg #[(.string ⟨#[]⟩), (.string ⟨#[]⟩)]) 32 rfl Tryz.underlying25 Cc rfl (by decide) (by omega) u3 dM (⟨ahj, ahk⟩ : gY) [.string ahj, .string ahk] (fun _ => True) (fun _ => False) rfl rfl ?aP (fun _ hk => hk.elim) ?aF ?aO (Below.refl _ _) ?aS ?aL ?_; (case aP => exact wC _ _ _ (⟨ahj, ahk⟩ : gY)); (case aF => exact (fun _ _ => trivial)); (case aO => exact (ur oU.out)); (case aS => exact (dJ (w := w) (g := g) (row := none) (kh HK.out))); (case aL => have := O9.out; omega); intro aGk w13 ho hb hg hat; rw [← ajY.out] at ho; have asG := ak (ho); replace HB := ak (vJ oZ HL.out hb); replace HI0 := ak (aK.grown oW hg (aK.own_ne HI0.out oU.out (by decide))); replace HK := ak (aJ.trans (kh HK.out) (aJ.yT hg g) (Kd.F9 oU.out)); clear ho hb hg hat oU))
    go_roundg k1
    case measure => exact kl
    case rel => exact ⟨_, _, _, rs, H', ⟨kl⟩, ⟨ur asG.out⟩, ⟨oW⟩, ⟨kh HK.out⟩, ⟨oZ⟩⟩
   ·
    have xU : decide (0 < dW) = false := decide_eq_false c9
    clear c9
    obtain ⟨rfl, rfl⟩ := s2 H
    go_wp2
    go_ret
    exact ⟨_, er, ur oU.out, oW, oZ, kh HK.out⟩
end Go.Proofs.YtncdadcmghglkaaGreatDoor.PFnCountParts
