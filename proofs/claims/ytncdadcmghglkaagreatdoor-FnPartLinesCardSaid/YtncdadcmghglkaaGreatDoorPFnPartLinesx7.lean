/- Printed walks; conditions: those in each statement. -/
import Derived.Test.YtncdadcmghglkaaGreatDoorVFnPartLinesQt
import Derived.Test.YtncdadcmghglkaaGreatDoorVFnPartLinesYt
import Derived.Test.YtncdadcmghglkaaGreatDoorPFnPartLinesx0
import Derived.Test.YtncdadcmghglkaaGreatDoorPFnPartLinesx1
import Derived.Test.YtncdadcmghglkaaGreatDoorPFnPartLinesx2
import Derived.Test.YtncdadcmghglkaaGreatDoorPFnPartLinesx3
import Derived.Test.YtncdadcmghglkaaGreatDoorPFnPartLinesx6
-- short
-- dense
-- sq
-- sq2
namespace Go.Proofs.YtncdadcmghglkaaGreatDoor.PFnPartLines
open Go.RowKit Go.Proofs.YtncdadcmghglkaaGreatDoor.X Go.Proofs.YtncdadcmghglkaaGreatDoorW.bI Go.Proofs.YtncdadcmghglkaaGreatDoorW.iy Go.Proofs.YtncdadcmghglkaaGreatDoorW.iZ
attribute [local go_sem] kZ lg nK nM jW jX lq lu   -- for this text's walks alone
set_option linter.unusedVariables false
set_option maxHeartbeats 8000000
set_option maxRecDepth 100000
set_option linter.unusedSimpArgs false
def gq.f (k : Nat) (a0 : ByteArray) (a1 : ByteArray) : Option ((List (gX)) × List ByteArray × (List (nG)) × Bool) := (bG.f k a0).bind fun aeB => ((lJ.f k a1).bind fun V4 => ((jC.f k a1 V4.1).bind fun aeC => (if aeB.2 = true then (if V4.2 = true then (if aeC.2 = true then ((je.f k (⟨#[83, 117, 98, 106, 101, 99, 116]⟩ : ByteArray) aeB.1).bind fun au2 => (if au2 = true then ((iH.f k aeC.1).bind fun au3 => (if au3 = true then ((some (([(⟨#[55, 98, 105, 116]⟩ : ByteArray), (⟨#[113, 117, 111, 116, 101, 100, 45, 112, 114, 105, 110, 116, 97, 98, 108, 101]⟩ : ByteArray), (⟨#[98, 97, 115, 101, 54, 52]⟩ : ByteArray)] : List ByteArray) : List ByteArray)).bind fun zL => (if 0 ≤ V4.1 then (if V4.1 < (zL.length : Int) then (some ((([(⟨(⟨#[83, 117, 98, 106, 101, 99, 116]⟩ : ByteArray), aeB.1⟩ : gX), (⟨(⟨#[67, 111, 110, 116, 101, 110, 116, 45, 84, 121, 112, 101]⟩ : ByteArray), (⟨#[116, 101, 120, 116, 47, 112, 108, 97, 105, 110, 59, 32, 99, 104, 97, 114, 115, 101, 116, 61, 117, 116, 102, 45, 56]⟩ : ByteArray)⟩ : gX), (⟨(⟨#[67, 111, 110, 116, 101, 110, 116, 45, 84, 114, 97, 110, 115, 102, 101, 114, 45, 69, 110, 99, 111, 100, 105, 110, 103]⟩ : ByteArray), mX ByteArray.empty zL V4.1⟩ : gX)] : List (gX))), aeC.1, ([] : List (nG)), true)) else (none)) else (none))) else (some (([] : List (gX)), ([] : List ByteArray), ([] : List (nG)), false)))) else (some (([] : List (gX)), ([] : List ByteArray), ([] : List (nG)), false)))) else (some (([] : List (gX)), ([] : List ByteArray), ([] : List (nG)), false))) else (some (([] : List (gX)), ([] : List ByteArray), ([] : List (nG)), false))) else (some (([] : List (gX)), ([] : List ByteArray), ([] : List (nG)), false)))))
def gq.T8 : Bool × List (List Nat × List Nat) := (true, [([], []), ([], []), ([], []), ([], []), ([2, 3], [2, 3]), ([4], [4]), ([5], [5]), ([0, 1, 6], [0, 1, 6]), ([7], [7]), ([], []), ([9, 8, 0, 1, 2, 3, 4, 5, 6, 7, 8, 9], [8, 9])])
def gq.B8 : List Nat := [0, 0, 0, 0, 12, 28, 60, 127, 255, 0, 1023]
theorem gq.abl : rU .any (opsOf Tryz.f167 8) = gq.T8 := by kernel_rfl
theorem gq.Rf : nD gq.T8.2 gq.B8 = true := by kernel_rfl
theorem gq.calls {k : Nat} {a0 a1 : ByteArray} {r1 : List (gX)} {r2 : List ByteArray} {r3 : List (nG)} {r4 : Bool} {w : World} (h : gq.f k a0 a1 = some (r1, r2, r3, r4)) :
  Calls Tryz.prog 167 #[.string a0, .string a1] w fun e w' => ∃ oV Di EG : Value, e = .returned (.tuple #[.agg #[oV, Di, EG], .bool r4]) ∧ Kd.R qI 69 w' w.heap.size (fun _ => True) oV r1 ∧ Kd.R Kd.string 9 w' w.heap.size (fun _ => True) Di r2 ∧ Kd.R k28 28 w' w.heap.size (fun k_ => some k_ ≠ (oV : Value).ownBlock ∧ some k_ ≠ (Di : Value).ownBlock) EG r3 ∧ Below w.heap.size w w' := by
 have EH := Tryz.underlying28
 have Dn := Tryz.underlying69
 have HB := ak (Below.refl w.heap.size w)
 unfold gq.f at h; have H := h
 clear h
 replace H := bd H
 obtain ⟨⟨vU, aIa⟩, A3, H⟩ := H
 (try dsimp only at H)
 replace H := bd H
 obtain ⟨⟨CV, aIb⟩, A4, H⟩ := H
 (try dsimp only at H)
 replace H := bd H
 obtain ⟨⟨LH, aIc⟩, A5, H⟩ := H
 (try dsimp only at H)
 replace H := sb H
 rcases H with ⟨rfl, H⟩ | ⟨rfl, H⟩
 ·
  replace H := sb H
  rcases H with ⟨rfl, H⟩ | ⟨rfl, H⟩
  ·
   replace H := sb H
   rcases H with ⟨rfl, H⟩ | ⟨rfl, H⟩
   ·
    replace H := bd H; obtain ⟨au2, A9, H⟩ := H; replace H := sb H
    rcases H with ⟨rfl, H⟩ | ⟨rfl, H⟩
    ·
     replace H := bd H; obtain ⟨au3, Zg, H⟩ := H; replace H := sb H
     rcases H with ⟨rfl, H⟩ | ⟨rfl, H⟩
     ·
      replace H := ny H
      obtain ⟨zL, au4, H⟩ := H
      replace H := oq H; obtain ⟨vw, H⟩ := H; replace H := oq H; obtain ⟨sH, H⟩ := H
      obtain ⟨QV, V5⟩ := nm ([(⟨(⟨#[83, 117, 98, 106, 101, 99, 116]⟩ : ByteArray), vU⟩ : gX), (⟨(⟨#[67, 111, 110, 116, 101, 110, 116, 45, 84, 121, 112, 101]⟩ : ByteArray), (⟨#[116, 101, 120, 116, 47, 112, 108, 97, 105, 110, 59, 32, 99, 104, 97, 114, 115, 101, 116, 61, 117, 116, 102, 45, 56]⟩ : ByteArray)⟩ : gX), (⟨(⟨#[67, 111, 110, 116, 101, 110, 116, 45, 84, 114, 97, 110, 115, 102, 101, 114, 45, 69, 110, 99, 111, 100, 105, 110, 103]⟩ : ByteArray), mX ByteArray.empty zL CV⟩ : gX)] : List (gX))
      rw [← V5.out] at H
      obtain ⟨rfl, rfl, rfl, rfl⟩ := s4 H
      go_enter Tryz.func167, Tryz.ntmps167
      try go_wp2_with (first | (refine bX HB 4 #[.slice none 0 0, .slice none 0 0, .slice none 0 0] 28 ?_; intro xw w15 eY V6 hb; replace HB := bs HB hb; clear hb) | (refine gB Tryz.func194 (bG.calls A3.out) ?_; intro w16 hb; replace eY := kb eY hb; replace HB := bz HB hb; clear hb) | (refine gB Tryz.func195 (lJ.calls A4.out) ?_; intro w17 hb; replace eY := kb eY hb; replace HB := bz HB hb; clear hb) | (refine gV Tryz.func196 (jC.calls A5.out) ?_; rintro aeD w18 ⟨ho0, hb⟩; have kF := ak (Kd.aC ho0 (aj bb)); replace eY := kb eY hb; replace HB := bz HB hb; clear hb; (try clear ho0)) | (refine bY HB 12 #[.string (⟨#[]⟩ : ByteArray), .string (⟨#[]⟩ : ByteArray)] 69 ?_; intro oD Zb jQ V7 hg hb; have rZ := Ba eY hg; have r_ := Bc eY hg; replace kF := rb kF hb; replace eY := kb eY hb; replace HB := bz HB hb; clear hb hg; have aq3 := r_.out; have aq4 := rZ.out; have z21 := zC jQ.out) | (go_at_call 158; refine mB (je.calls A9.out) ?_; intro YX hb; replace kF := rg kF hb; replace eY := kp eY #[.slice none 0 0, .slice none 0 0, .slice none 0 0] hb; replace jQ := kp jQ #[.string (⟨#[83, 117, 98, 106, 101, 99, 116]⟩ : ByteArray), .string vU] hb; replace HB := bz HB hb; clear hb; obtain ⟨PK, NV, aef⟩ := Kd.aI kF.out; subst aef) | (go_at_call 114; refine mA (iH.calls (cu ((Kd.ay kF.out).2.2)) ((Kd.ay kF.out).2.1) Zg.out) ?_; intro nd; (try (rw [PZ YX]; generalize hq_ : World.drewN YX _ = YX; have yQ : ah (Kd.R Kd.string 9 YX w.heap.size (fun _ => True) (.slice PK LH.length NV) LH) := ⟨by rw [← hq_]; exact (ur kF.out)⟩; have yR : ah (YX.heap[xw]? = some (.cells #[.slice none 0 0, .slice none 0 0, .slice none 0 0] 28 (0, 0))) := ⟨by rw [← hq_]; exact (ub eY.out)⟩; have zB : ah (YX.heap[oD]? = some (.cells #[.string (⟨#[83, 117, 98, 106, 101, 99, 116]⟩ : ByteArray), .string vU] 69 (0, 0))) := ⟨by rw [← hq_]; exact (ub jQ.out)⟩; have CJ : ah (Below w.heap.size w YX) := ⟨by rw [← hq_]; exact bb⟩; clear kF eY jQ HB hq_; have kF := yQ; have eY := yR; have jQ := zB; have HB := CJ; clear yQ yR zB CJ))) | (refine QD 54 Kd.string 9 [.string (⟨#[55, 98, 105, 116]⟩ : ByteArray), .string (⟨#[113, 117, 111, 116, 101, 100, 45, 112, 114, 105, 110, 116, 97, 98, 108, 101]⟩ : ByteArray), .string (⟨#[98, 97, 115, 101, 54, 52]⟩ : ByteArray)] au4 (dh.one (show Kd.M Kd.string _ _ _ (⟨#[55, 98, 105, 116]⟩ : ByteArray) [.string (⟨#[55, 98, 105, 116]⟩ : ByteArray)] from rfl) (dh.one (show Kd.M Kd.string _ _ _ (⟨#[113, 117, 111, 116, 101, 100, 45, 112, 114, 105, 110, 116, 97, 98, 108, 101]⟩ : ByteArray) [.string (⟨#[113, 117, 111, 116, 101, 100, 45, 112, 114, 105, 110, 116, 97, 98, 108, 101]⟩ : ByteArray)] from rfl) (dh.one (show Kd.M Kd.string _ _ _ (⟨#[98, 97, 115, 101, 54, 52]⟩ : ByteArray) [.string (⟨#[98, 97, 115, 101, 54, 52]⟩ : ByteArray)] from rfl) (dh.none _ _)))) ?_; intro aId w24 OX hb; have rD := ak (Kd.aC (Kd.dR OX (Kd.jh (ur kF.out))) (aj bb)); replace kF := ak (Kd.bH (ur kF.out) (Kd.bZ OX) hb); replace eY := kb eY hb; replace jQ := ak (qA (g := oD) (o := .cells #[.string (⟨#[83, 117, 98, 106, 101, 99, 116]⟩ : ByteArray), .string vU] 69 (0, 0)) (ub jQ.out) hb); replace HB := bz HB hb; clear hb OX))
      replace kF := ak (Kd.fV kF.out)
      replace rD := ak (Kd.fV rD.out)
      replace eY := ak (iQ eY.out)
      replace jQ := ak (iQ jQ.out)
      replace HB := ak (fQ HB.out)
      obtain ⟨aIe, ahg, au5⟩ := Kd.aI rD.out
      (first | subst au5 | (injection au5 with oM uz oN; have uD := oM.symm; have uF := oN.symm; clear oM uz oN; subst uD; subst uF))
      have anH := zi CV
      have anI := zj CV zL.length
      obtain ⟨P5, e267, aap⟩ := Kd.iU (Kd.ay rD.out).2.2 CV anH anI
      cases e267
      replace anH := eq_true anH
      replace anI := eq_true anI
      refine Ce (n := 11) (S := fun w' => w'.cell? ⟨oD, 0, none⟩ = some (.string (⟨#[83, 117, 98, 106, 101, 99, 116]⟩ : ByteArray)) ∧ w'.cell? ⟨oD, 1, none⟩ = some (.string vU) ∧ w'.cell? (P5.add (CV).toNat) = some (.string (mX ByteArray.empty zL CV))) (ds := []) #[false, false, false, false, false, false, false, false, false, false, false] (by kernel_rfl) rfl rfl ⟨(aA jQ.out 0).trans rfl, (aA jQ.out 1).trans rfl, aap⟩ (fun hHeld => ?_); refine tN gq.abl gq.Rf (fun D8 HW_ => ?_)
      generalize w24.drew = w26 at kF rD eY jQ HB aap hHeld ⊢
      refine pl 1 ?_
      refine pl 2 ?_
      refine pl 3 ?_
      refine pl 4 ?_
      refine tk 0 ?_
      refine tk 5 ?_
      refine pl 6 ?_
      refine acS (σ := Value × Nat) 1 #[true, true, true, true, true, true, true, true, true, true, false] (fun s_ => [(62, s_.1), (14, .pointer (some ⟨s_.2, 0, none⟩)), (63, .agg #[s_.1, .slice none 0 0, .slice none 0 0])]) (fun s_ w' => (w'.cell? ⟨oD, 0, none⟩ = some (.string (⟨#[83, 117, 98, 106, 101, 99, 116]⟩ : ByteArray)) ∧ w'.cell? ⟨oD, 1, none⟩ = some (.string vU) ∧ w'.cell? (P5.add (CV).toNat) = some (.string (mX ByteArray.empty zL CV))) ∧ (Kd.R Kd.string 9 w' w.heap.size (fun k_ => some k_ ≠ (.slice (some P5) zL.length ahg : Value).ownBlock) (.slice PK LH.length NV) LH) ∧ (Kd.R Kd.string 9 w' w.heap.size (fun k_ => some k_ ≠ (.slice PK LH.length NV : Value).ownBlock) (.slice (some P5) zL.length ahg) zL) ∧ (Kd.R qI 69 w' w.heap.size (fun k_ => k_ ≠ oD) s_.1 QV) ∧ (w'.heap[xw]? = some (.cells #[.slice none 0 0, .slice none 0 0, .slice none 0 0] 28 (0, 0))) ∧ (w'.heap[oD]? = some (.cells #[.string (⟨#[83, 117, 98, 106, 101, 99, 116]⟩ : ByteArray), .string vU] 69 (0, 0))) ∧ (w'.heap[s_.2]? = some (.cells #[.slice none 0 0, .slice none 0 0, .slice none 0 0] 28 (0, 0))) ∧ (w.heap.size ≤ s_.2) ∧ (w.heap.size ≤ s_.2) ∧ (xw ≠ s_.2) ∧ (s_.2 ≠ xw) ∧ (oD ≠ s_.2) ∧ (s_.2 ≠ oD) ∧ (Below w.heap.size w w')) ?_ ?_
      rotate_left
      ·
       intro Ri
       refine agl (i := 7) (j := 9) (Ni := some 62) (Nj := some 14) #[true, true, true, true, true, true, true, true, false, false, false] #[true, true, true, true, true, true, true, false, false, true, false] rfl rfl rfl rfl (Tm D8.out (by kernel_rfl)) (by decide) (by decide) (fun K hK => ?_) (fun K hK => ?_)
       ·
        skip
        refine Kd.qC qI _ 69 ?hg (N := 62) ?hd (xs := ([(⟨(⟨#[83, 117, 98, 106, 101, 99, 116]⟩ : ByteArray), vU⟩ : gX), (⟨(⟨#[67, 111, 110, 116, 101, 110, 116, 45, 84, 121, 112, 101]⟩ : ByteArray), (⟨#[116, 101, 120, 116, 47, 112, 108, 97, 105, 110, 59, 32, 99, 104, 97, 114, 115, 101, 116, 61, 117, 116, 102, 45, 56]⟩ : ByteArray)⟩ : gX), (⟨(⟨#[67, 111, 110, 116, 101, 110, 116, 45, 84, 114, 97, 110, 115, 102, 101, 114, 45, 69, 110, 99, 111, 100, 105, 110, 103]⟩ : ByteArray), mX ByteArray.empty zL CV⟩ : gX)] : List (gX))) (inner := [.string (⟨#[83, 117, 98, 106, 101, 99, 116]⟩ : ByteArray), .string vU, .string (⟨#[67, 111, 110, 116, 101, 110, 116, 45, 84, 121, 112, 101]⟩ : ByteArray), .string (⟨#[116, 101, 120, 116, 47, 112, 108, 97, 105, 110, 59, 32, 99, 104, 97, 114, 115, 101, 116, 61, 117, 116, 102, 45, 56]⟩ : ByteArray), .string (⟨#[67, 111, 110, 116, 101, 110, 116, 45, 84, 114, 97, 110, 115, 102, 101, 114, 45, 69, 110, 99, 111, 100, 105, 110, 103]⟩ : ByteArray), .string (mX ByteArray.empty zL CV)]) (ok := fun _ => True) (vM := fun _ => True) ?hr ?hp (fun _ hk => hk) trivial (Below.refl _ _) (Nat.le_refl _) (by simp) ?_; (case hd => rfl); (case hg => rfl); (case hr => first | (go_simp; done) | (go_simp; rfl)); (case hp => exact (dh.c2 (show Kd.M qI _ _ _ (⟨(⟨#[83, 117, 98, 106, 101, 99, 116]⟩ : ByteArray), vU⟩ : gX) [.string (⟨#[83, 117, 98, 106, 101, 99, 116]⟩ : ByteArray), .string vU] from (vW _ _ _ (⟨(⟨#[83, 117, 98, 106, 101, 99, 116]⟩ : ByteArray), vU⟩ : gX) )) (dh.c2 (show Kd.M qI _ _ _ (⟨(⟨#[67, 111, 110, 116, 101, 110, 116, 45, 84, 121, 112, 101]⟩ : ByteArray), (⟨#[116, 101, 120, 116, 47, 112, 108, 97, 105, 110, 59, 32, 99, 104, 97, 114, 115, 101, 116, 61, 117, 116, 102, 45, 56]⟩ : ByteArray)⟩ : gX) [.string (⟨#[67, 111, 110, 116, 101, 110, 116, 45, 84, 121, 112, 101]⟩ : ByteArray), .string (⟨#[116, 101, 120, 116, 47, 112, 108, 97, 105, 110, 59, 32, 99, 104, 97, 114, 115, 101, 116, 61, 117, 116, 102, 45, 56]⟩ : ByteArray)] from (vW _ _ _ (⟨(⟨#[67, 111, 110, 116, 101, 110, 116, 45, 84, 121, 112, 101]⟩ : ByteArray), (⟨#[116, 101, 120, 116, 47, 112, 108, 97, 105, 110, 59, 32, 99, 104, 97, 114, 115, 101, 116, 61, 117, 116, 102, 45, 56]⟩ : ByteArray)⟩ : gX) )) (dh.c2 (show Kd.M qI _ _ _ (⟨(⟨#[67, 111, 110, 116, 101, 110, 116, 45, 84, 114, 97, 110, 115, 102, 101, 114, 45, 69, 110, 99, 111, 100, 105, 110, 103]⟩ : ByteArray), mX ByteArray.empty zL CV⟩ : gX) [.string (⟨#[67, 111, 110, 116, 101, 110, 116, 45, 84, 114, 97, 110, 115, 102, 101, 114, 45, 69, 110, 99, 111, 100, 105, 110, 103]⟩ : ByteArray), .string (mX ByteArray.empty zL CV)] from (vW _ _ _ (⟨(⟨#[67, 111, 110, 116, 101, 110, 116, 45, 84, 114, 97, 110, 115, 102, 101, 114, 45, 69, 110, 99, 111, 100, 105, 110, 103]⟩ : ByteArray), mX ByteArray.empty zL CV⟩ : gX) )) (dh.none _ _)))))
        intro anJ w28 aeE hb CB vS
        have XZ := (hb.cell (World.block_lt_of_cell? _ _ (hHeld.2.2))).trans (hHeld.2.2)
        clear CB vS
        (first | rw [← V5.out] at aeE | (simp only [Int.reduceToNat] at aeE; rw [← V5.out] at aeE))
        have JX := ak (Kd.aC (Kd.nH aeE (g := oD) (o := .cells #[.string (⟨#[83, 117, 98, 106, 101, 99, 116]⟩ : ByteArray), .string vU] 69 (0, 0)) (ub jQ.out)) (aj bb))
        replace kF := rb kF hb
        replace rD := rb rD hb
        replace eY := kb eY hb
        replace jQ := ak (qA (g := oD) (o := .cells #[.string (⟨#[83, 117, 98, 106, 101, 99, 116]⟩ : ByteArray), .string vU] 69 (0, 0)) (ub jQ.out) hb)
        replace HB := bz HB hb
        clear hb aeE
        obtain ⟨al3, al4, abt⟩ := Kd.aI JX.out
        (first | subst abt | (injection abt with oM uz oN; have uD := oM.symm; have uF := oN.symm; clear oM uz oN; subst uD; subst uF))
        refine hK.out _ _ ⟨(aA jQ.out 0).trans rfl, (aA jQ.out 1).trans rfl, XZ⟩ (fun hHeld => ?_)
        clear hK K
        refine nrm ?_
        refine pl 8 ?_
        refine o1 9 (fun K hK => ?_)
        refine P6 ?hg (N := 14) ?hd (cs := #[.slice none 0 0, .slice none 0 0, .slice none 0 0]) (t := 28) ?hr ?_; (case hd => rfl); (case hg => rfl); (case hr => first | (go_simp; done) | (go_simp; rfl))
        intro qG hg w31 hbox hb
        have XZ := (hb.cell (World.block_lt_of_cell? _ _ (hHeld.2.2))).trans (hHeld.2.2)
        have sK := ak (hbox)
        have aaq := ak ((by rw [hg]; exact (aj bb) : w.heap.size ≤ qG))
        have aar := ak ((by rw [hg]; exact (aj bb) : w.heap.size ≤ qG))
        have wG := Ba eY hg
        have wH := Bc eY hg
        have pz := ak ((by rw [hg]; exact Nat.ne_of_lt (wQ (g := oD) (o := .cells #[.string (⟨#[83, 117, 98, 106, 101, 99, 116]⟩ : ByteArray), .string vU] 69 (0, 0)) (ub jQ.out)) : oD ≠ qG))
        have wI := ak ((by rw [hg]; exact Nat.ne_of_gt (wQ (g := oD) (o := .cells #[.string (⟨#[83, 117, 98, 106, 101, 99, 116]⟩ : ByteArray), .string vU] 69 (0, 0)) (ub jQ.out)) : qG ≠ oD))
        replace kF := rb kF hb
        replace rD := rb rD hb
        replace JX := rb JX hb
        replace eY := kb eY hb
        replace jQ := ak (qA (g := oD) (o := .cells #[.string (⟨#[83, 117, 98, 106, 101, 99, 116]⟩ : ByteArray), .string vU] 69 (0, 0)) (ub jQ.out) hb)
        replace HB := bz HB hb
        clear hb hbox hg
        refine hK.out _ _ ⟨(aA jQ.out 0).trans rfl, (aA jQ.out 1).trans rfl, XZ⟩ (fun hHeld => ?_)
        clear hK K
        refine nrm ?_
        exact D9 (by simp only [xX, Act.put, yT, yU, l_c] <;> rfl) (Ri (.slice al3 QV.length al4, qG) _ ⟨hHeld, (ur (Kd.aY kF.out (fun _ hk => hk.2))), (ur (Kd.aY rD.out (fun _ hk => hk.2))), (ur (Kd.aY JX.out (fun _ hk => hk.2))), (ub eY.out), (ub jQ.out), (ub sK.out), aaq.out, aar.out, wG.out, wH.out, pz.out, wI.out, bb⟩)
       ·
        skip
        refine P6 ?hg (N := 14) ?hd (cs := #[.slice none 0 0, .slice none 0 0, .slice none 0 0]) (t := 28) ?hr ?_; (case hd => rfl); (case hg => rfl); (case hr => first | (go_simp; done) | (go_simp; rfl))
        intro qG hg w28 hbox hb
        have XZ := (hb.cell (World.block_lt_of_cell? _ _ (hHeld.2.2))).trans (hHeld.2.2)
        have sK := ak (hbox)
        have aaq := ak ((by rw [hg]; exact (aj bb) : w.heap.size ≤ qG))
        have aar := ak ((by rw [hg]; exact (aj bb) : w.heap.size ≤ qG))
        have wG := Ba eY hg
        have wH := Bc eY hg
        have pz := ak ((by rw [hg]; exact Nat.ne_of_lt (wQ (g := oD) (o := .cells #[.string (⟨#[83, 117, 98, 106, 101, 99, 116]⟩ : ByteArray), .string vU] 69 (0, 0)) (ub jQ.out)) : oD ≠ qG))
        have wI := ak ((by rw [hg]; exact Nat.ne_of_gt (wQ (g := oD) (o := .cells #[.string (⟨#[83, 117, 98, 106, 101, 99, 116]⟩ : ByteArray), .string vU] 69 (0, 0)) (ub jQ.out)) : qG ≠ oD))
        replace kF := rb kF hb
        replace rD := rb rD hb
        replace eY := kb eY hb
        replace jQ := ak (qA (g := oD) (o := .cells #[.string (⟨#[83, 117, 98, 106, 101, 99, 116]⟩ : ByteArray), .string vU] 69 (0, 0)) (ub jQ.out) hb)
        replace HB := bz HB hb
        clear hb hbox hg
        refine hK.out _ _ ⟨(aA jQ.out 0).trans rfl, (aA jQ.out 1).trans rfl, XZ⟩ (fun hHeld => ?_)
        clear hK K
        refine nrm ?_
        refine o1 7 (fun K hK => ?_)
        refine Kd.qC qI _ 69 ?hg (N := 62) ?hd (xs := ([(⟨(⟨#[83, 117, 98, 106, 101, 99, 116]⟩ : ByteArray), vU⟩ : gX), (⟨(⟨#[67, 111, 110, 116, 101, 110, 116, 45, 84, 121, 112, 101]⟩ : ByteArray), (⟨#[116, 101, 120, 116, 47, 112, 108, 97, 105, 110, 59, 32, 99, 104, 97, 114, 115, 101, 116, 61, 117, 116, 102, 45, 56]⟩ : ByteArray)⟩ : gX), (⟨(⟨#[67, 111, 110, 116, 101, 110, 116, 45, 84, 114, 97, 110, 115, 102, 101, 114, 45, 69, 110, 99, 111, 100, 105, 110, 103]⟩ : ByteArray), mX ByteArray.empty zL CV⟩ : gX)] : List (gX))) (inner := [.string (⟨#[83, 117, 98, 106, 101, 99, 116]⟩ : ByteArray), .string vU, .string (⟨#[67, 111, 110, 116, 101, 110, 116, 45, 84, 121, 112, 101]⟩ : ByteArray), .string (⟨#[116, 101, 120, 116, 47, 112, 108, 97, 105, 110, 59, 32, 99, 104, 97, 114, 115, 101, 116, 61, 117, 116, 102, 45, 56]⟩ : ByteArray), .string (⟨#[67, 111, 110, 116, 101, 110, 116, 45, 84, 114, 97, 110, 115, 102, 101, 114, 45, 69, 110, 99, 111, 100, 105, 110, 103]⟩ : ByteArray), .string (mX ByteArray.empty zL CV)]) (ok := fun _ => True) (vM := fun _ => True) ?hr ?hp (fun _ hk => hk) trivial (Below.refl _ _) (Nat.le_refl _) (by simp) ?_; (case hd => rfl); (case hg => rfl); (case hr => first | (go_simp; done) | (go_simp; rfl)); (case hp => exact (dh.c2 (show Kd.M qI _ _ _ (⟨(⟨#[83, 117, 98, 106, 101, 99, 116]⟩ : ByteArray), vU⟩ : gX) [.string (⟨#[83, 117, 98, 106, 101, 99, 116]⟩ : ByteArray), .string vU] from (vW _ _ _ (⟨(⟨#[83, 117, 98, 106, 101, 99, 116]⟩ : ByteArray), vU⟩ : gX) )) (dh.c2 (show Kd.M qI _ _ _ (⟨(⟨#[67, 111, 110, 116, 101, 110, 116, 45, 84, 121, 112, 101]⟩ : ByteArray), (⟨#[116, 101, 120, 116, 47, 112, 108, 97, 105, 110, 59, 32, 99, 104, 97, 114, 115, 101, 116, 61, 117, 116, 102, 45, 56]⟩ : ByteArray)⟩ : gX) [.string (⟨#[67, 111, 110, 116, 101, 110, 116, 45, 84, 121, 112, 101]⟩ : ByteArray), .string (⟨#[116, 101, 120, 116, 47, 112, 108, 97, 105, 110, 59, 32, 99, 104, 97, 114, 115, 101, 116, 61, 117, 116, 102, 45, 56]⟩ : ByteArray)] from (vW _ _ _ (⟨(⟨#[67, 111, 110, 116, 101, 110, 116, 45, 84, 121, 112, 101]⟩ : ByteArray), (⟨#[116, 101, 120, 116, 47, 112, 108, 97, 105, 110, 59, 32, 99, 104, 97, 114, 115, 101, 116, 61, 117, 116, 102, 45, 56]⟩ : ByteArray)⟩ : gX) )) (dh.c2 (show Kd.M qI _ _ _ (⟨(⟨#[67, 111, 110, 116, 101, 110, 116, 45, 84, 114, 97, 110, 115, 102, 101, 114, 45, 69, 110, 99, 111, 100, 105, 110, 103]⟩ : ByteArray), mX ByteArray.empty zL CV⟩ : gX) [.string (⟨#[67, 111, 110, 116, 101, 110, 116, 45, 84, 114, 97, 110, 115, 102, 101, 114, 45, 69, 110, 99, 111, 100, 105, 110, 103]⟩ : ByteArray), .string (mX ByteArray.empty zL CV)] from (vW _ _ _ (⟨(⟨#[67, 111, 110, 116, 101, 110, 116, 45, 84, 114, 97, 110, 115, 102, 101, 114, 45, 69, 110, 99, 111, 100, 105, 110, 103]⟩ : ByteArray), mX ByteArray.empty zL CV⟩ : gX) )) (dh.none _ _)))))
        intro anJ w29 V8 hb CB vS
        have XZ := (hb.cell (World.block_lt_of_cell? _ _ (hHeld.2.2))).trans (hHeld.2.2)
        clear CB vS
        (first | rw [← V5.out] at V8 | (simp only [Int.reduceToNat] at V8; rw [← V5.out] at V8))
        have JX := ak (Kd.aC (Kd.nH V8 (g := oD) (o := .cells #[.string (⟨#[83, 117, 98, 106, 101, 99, 116]⟩ : ByteArray), .string vU] 69 (0, 0)) (ub jQ.out)) (aj bb))
        replace kF := rb kF hb
        replace rD := rb rD hb
        replace eY := kb eY hb
        replace jQ := ak (qA (g := oD) (o := .cells #[.string (⟨#[83, 117, 98, 106, 101, 99, 116]⟩ : ByteArray), .string vU] 69 (0, 0)) (ub jQ.out) hb)
        replace sK := kb sK hb
        replace HB := bz HB hb
        clear hb V8
        obtain ⟨aha, ahb, abJ⟩ := Kd.aI JX.out
        (first | subst abJ | (injection abJ with oM uz oN; have uD := oM.symm; have uF := oN.symm; clear oM uz oN; subst uD; subst uF))
        refine hK.out _ _ ⟨(aA jQ.out 0).trans rfl, (aA jQ.out 1).trans rfl, XZ⟩ (fun hHeld => ?_)
        clear hK K
        refine nrm ?_
        refine pl 8 ?_
        exact D9 (by simp only [xX, Act.put, yT, yU, l_c] <;> rfl) (Ri (.slice aha QV.length ahb, qG) _ ⟨hHeld, (ur (Kd.aY kF.out (fun _ hk => hk.2))), (ur (Kd.aY rD.out (fun _ hk => hk.2))), (ur (Kd.aY JX.out (fun _ hk => hk.2))), (ub eY.out), (ub jQ.out), (ub sK.out), aaq.out, aar.out, wG.out, wH.out, pz.out, wI.out, bb⟩)
      rintro ⟨anJ, qG⟩ w32 ⟨hS_, h0_, h1_, Y0, h3_, h4_, h5_, h6_, h7_, h8_, h9_, Tn, abL, anK⟩
      have yQ : ah (Kd.R Kd.string 9 w32 w.heap.size (fun k_ => some k_ ≠ (.slice (some P5) zL.length ahg : Value).ownBlock) (.slice PK LH.length NV) LH) := ⟨h0_⟩
      have yR : ah (Kd.R Kd.string 9 w32 w.heap.size (fun k_ => some k_ ≠ (.slice PK LH.length NV : Value).ownBlock) (.slice (some P5) zL.length ahg) zL) := ⟨h1_⟩
      have zB : ah (Kd.R qI 69 w32 w.heap.size (fun k_ => k_ ≠ oD) anJ QV) := ⟨Y0⟩
      have CJ : ah (w32.heap[xw]? = some (.cells #[.slice none 0 0, .slice none 0 0, .slice none 0 0] 28 (0, 0))) := ⟨h3_⟩
      have GX : ah (w32.heap[oD]? = some (.cells #[.string (⟨#[83, 117, 98, 106, 101, 99, 116]⟩ : ByteArray), .string vU] 69 (0, 0))) := ⟨h4_⟩
      have IZ : ah (w32.heap[qG]? = some (.cells #[.slice none 0 0, .slice none 0 0, .slice none 0 0] 28 (0, 0))) := ⟨h5_⟩
      have MN : ah (w.heap.size ≤ qG) := ⟨h6_⟩
      have Rh : ah (w.heap.size ≤ qG) := ⟨h7_⟩
      have U8 : ah (xw ≠ qG) := ⟨h8_⟩
      have YZ : ah (qG ≠ xw) := ⟨h9_⟩
      have O7 : ah (oD ≠ qG) := ⟨Tn⟩
      have aeF : ah (qG ≠ oD) := ⟨abL⟩
      have au6 : ah (Below w.heap.size w w32) := ⟨anK⟩
      clear kF rD eY jQ HB h0_ h1_ Y0 h3_ h4_ h5_ h6_ h7_ h8_ h9_ Tn abL anK
      have kF := yQ
      have rD := yR
      have JX := zB
      have eY := CJ
      have jQ := GX
      have sK := IZ
      have aaq := MN
      have aar := Rh
      have wG := U8
      have wH := YZ
      have pz := O7
      have wI := aeF
      have HB := au6
      clear yQ yR zB CJ GX IZ MN Rh U8 YZ O7 aeF au6
      have hHeld : w32.cell? ⟨oD, 0, none⟩ = some (.string (⟨#[83, 117, 98, 106, 101, 99, 116]⟩ : ByteArray)) ∧ w32.cell? ⟨oD, 1, none⟩ = some (.string vU) ∧ w32.cell? (P5.add (CV).toNat) = some (.string (mX ByteArray.empty zL CV)) := hS_
      obtain ⟨V9, V_, aeG⟩ := Kd.aI JX.out
      (first | subst aeG | (injection aeG with oM uz oN; have uD := oM.symm; have uF := oN.symm; clear oM uz oN; subst uD; subst uF))
      refine D9 (a' := ?_) ?_ ?_
      rotate_left
      ·
       simp only [xX, Act.put, yT, yU, l_c]
       rfl
      refine o1 10 (fun K hK => ?_)
      have aIf : w32.cell? ⟨qG, 0, none⟩ = some (.slice none 0 0) := (aA sK.out 0).trans rfl
      have aCB := gY sK.out 0
      have awR := wG.out
      have awS := pz.out
      have awT := wH.out
      have awU := wI.out
      have aIg : w32.cell? ⟨qG, 1, none⟩ = some (.slice none 0 0) := (aA sK.out 1).trans rfl
      have aCC := gY sK.out 1
      have awV := wG.out
      have awW := pz.out
      have awX := wH.out
      have awY := wI.out
      have azK : w32.cell? ⟨qG, 2, none⟩ = some (.slice none 0 0) := (aA sK.out 2).trans rfl
      have au7 := gY sK.out 2
      have ahh := wG.out
      have ahi := pz.out
      have ahj := wH.out
      have ahk := wI.out
      refine GZ (w1 := ?_) (by rfl) rfl ?_ ?_
      rotate_left
      ·
       go_simp
       rfl
      refine hK.out _ _ ⟨((cell_far (p := ⟨qG, _, none⟩) pz.out _).trans (((cell_far (p := ⟨qG, _, none⟩) pz.out _).trans (((cell_far (p := ⟨qG, _, none⟩) pz.out _).trans (hHeld.1)))))), ((cell_far (p := ⟨qG, _, none⟩) pz.out _).trans (((cell_far (p := ⟨qG, _, none⟩) pz.out _).trans (((cell_far (p := ⟨qG, _, none⟩) pz.out _).trans (hHeld.2.1)))))), ((cell_far (p := ⟨qG, _, none⟩) (by first | exact Kd.vk (Kd.oG rD.out sK.out (by decide)) | (rw [add_block]; exact Kd.vk (Kd.oG rD.out sK.out (by decide))) | (show (Addr.add _ _).block ≠ _; rw [add_block]; exact Kd.vk (Kd.oG rD.out sK.out (by decide))) | (dsimp only; exact Kd.vk (Kd.oG rD.out sK.out (by decide)))) _).trans (((cell_far (p := ⟨qG, _, none⟩) (by first | exact Kd.vk (Kd.oG rD.out sK.out (by decide)) | (rw [add_block]; exact Kd.vk (Kd.oG rD.out sK.out (by decide))) | (show (Addr.add _ _).block ≠ _; rw [add_block]; exact Kd.vk (Kd.oG rD.out sK.out (by decide))) | (dsimp only; exact Kd.vk (Kd.oG rD.out sK.out (by decide)))) _).trans (((cell_far (p := ⟨qG, _, none⟩) (by first | exact Kd.vk (Kd.oG rD.out sK.out (by decide)) | (rw [add_block]; exact Kd.vk (Kd.oG rD.out sK.out (by decide))) | (show (Addr.add _ _).block ≠ _; rw [add_block]; exact Kd.vk (Kd.oG rD.out sK.out (by decide))) | (dsimp only; exact Kd.vk (Kd.oG rD.out sK.out (by decide)))) _).trans (hHeld.2.2))))))⟩ (fun hHeld => ?_)
      clear hK K
      refine G5 (yA D8.out (by kernel_rfl)) ?_
      have au8 := wH.out
      have au9 := wG.out
      have au_ := wI.out
      have ava := pz.out
      have z39 := kK sK.out
      have z40 := kK eY.out
      have aCD := kK (zM (cs' := #[.slice V9 QV.length V_, .slice PK LH.length NV, .slice none 0 0]) (zM (cs' := #[.slice V9 QV.length V_, .slice none 0 0, .slice none 0 0]) (zM (cs' := #[.slice V9 QV.length V_, .slice none 0 0, .slice none 0 0]) (zM (cs' := #[.slice V9 QV.length V_, .slice none 0 0, .slice none 0 0]) sK.out 0 (.slice V9 QV.length V_) rfl) 1 (.slice none 0 0) rfl) 2 (.slice none 0 0) rfl) 1 (.slice PK LH.length NV) rfl)
      try go_wp2
      refine bodyPost_ret (lC rfl _ _ xw 28 #[.slice V9 QV.length V_, .slice PK LH.length NV, .slice none 0 0] (0, 0) _ rfl bq Tryz.underlying28 rfl (by kernel_rfl)) rfl ?_
      exact ⟨_, _, _, er, rr, rr, nx, bb⟩
     ·
      obtain ⟨rfl, rfl, rfl, rfl⟩ := s4 H
      go_enter Tryz.func167, Tryz.ntmps167
      go_wp2_with (first | (refine bX HB 4 #[.slice none 0 0, .slice none 0 0, .slice none 0 0] 28 ?_; intro xw w41 eY V6 hb; replace HB := bs HB hb; clear hb) | (refine gB Tryz.func194 (bG.calls A3.out) ?_; intro w42 hb; replace eY := kb eY hb; replace HB := bz HB hb; clear hb) | (refine gB Tryz.func195 (lJ.calls A4.out) ?_; intro w43 hb; replace eY := kb eY hb; replace HB := bz HB hb; clear hb) | (refine gV Tryz.func196 (jC.calls A5.out) ?_; rintro aeD w44 ⟨ho0, hb⟩; have kF := ak (Kd.aC ho0 (aj bb)); replace eY := kb eY hb; replace HB := bz HB hb; clear hb; (try clear ho0)) | (refine bY HB 12 #[.string (⟨#[]⟩ : ByteArray), .string (⟨#[]⟩ : ByteArray)] 69 ?_; intro oD w45 jQ V7 hg hb; have rZ := Ba eY hg; have r_ := Bc eY hg; replace kF := rb kF hb; replace eY := kb eY hb; replace HB := bz HB hb; clear hb hg; have aoN := r_.out; have aoO := rZ.out; have z47 := zC jQ.out) | (go_at_call 158; refine mB (je.calls A9.out) ?_; intro w48 hb; replace kF := rg kF hb; replace eY := kp eY #[.slice none 0 0, .slice none 0 0, .slice none 0 0] hb; replace jQ := kp jQ #[.string (⟨#[83, 117, 98, 106, 101, 99, 116]⟩ : ByteArray), .string vU] hb; replace HB := bz HB hb; clear hb; obtain ⟨abu, abv, adP⟩ := Kd.aI kF.out; subst adP) | (go_at_call 114; refine mA (iH.calls (cu ((Kd.ay kF.out).2.2)) ((Kd.ay kF.out).2.1) Zg.out) ?_; intro nd; (try (rw [PZ w48]; generalize hq_ : World.drewN w48 _ = w48; have yQ : ah (Kd.R Kd.string 9 w48 w.heap.size (fun _ => True) (.slice abu LH.length abv) LH) := ⟨by rw [← hq_]; exact (ur kF.out)⟩; have yR : ah (w48.heap[xw]? = some (.cells #[.slice none 0 0, .slice none 0 0, .slice none 0 0] 28 (0, 0))) := ⟨by rw [← hq_]; exact (ub eY.out)⟩; have zB : ah (w48.heap[oD]? = some (.cells #[.string (⟨#[83, 117, 98, 106, 101, 99, 116]⟩ : ByteArray), .string vU] 69 (0, 0))) := ⟨by rw [← hq_]; exact (ub jQ.out)⟩; have CJ : ah (Below w.heap.size w w48) := ⟨by rw [← hq_]; exact bb⟩; clear kF eY jQ HB hq_; have kF := yQ; have eY := yR; have jQ := zB; have HB := CJ; clear yQ yR zB CJ)); have z50 := kK eY.out))
      refine bodyPost_ret (lC rfl _ _ xw 28 #[.slice none 0 0, .slice none 0 0, .slice none 0 0] (0, 0) _ rfl bq Tryz.underlying28 rfl (by kernel_rfl)) rfl ?_
      exact ⟨_, _, _, er, nx, nx, nx, bb⟩
    ·
     obtain ⟨rfl, rfl, rfl, rfl⟩ := s4 H
     go_enter Tryz.func167, Tryz.ntmps167
     go_wp2_with (first | (refine bX HB 4 #[.slice none 0 0, .slice none 0 0, .slice none 0 0] 28 ?_; intro xw w51 eY V6 hb; replace HB := bs HB hb; clear hb) | (refine gB Tryz.func194 (bG.calls A3.out) ?_; intro w52 hb; replace eY := kb eY hb; replace HB := bz HB hb; clear hb) | (refine gB Tryz.func195 (lJ.calls A4.out) ?_; intro w53 hb; replace eY := kb eY hb; replace HB := bz HB hb; clear hb) | (refine gV Tryz.func196 (jC.calls A5.out) ?_; rintro aeD w54 ⟨ho0, hb⟩; have kF := ak (Kd.aC ho0 (aj bb)); replace eY := kb eY hb; replace HB := bz HB hb; clear hb; (try clear ho0)) | (refine bY HB 12 #[.string (⟨#[]⟩ : ByteArray), .string (⟨#[]⟩ : ByteArray)] 69 ?_; intro oD w55 jQ V7 hg hb; have rZ := Ba eY hg; have r_ := Bc eY hg; replace kF := rb kF hb; replace eY := kb eY hb; replace HB := bz HB hb; clear hb hg; have aqu := r_.out; have aqv := rZ.out; have z57 := zC jQ.out) | (go_at_call 158; refine mB (je.calls A9.out) ?_; intro w58 hb; replace kF := rg kF hb; replace eY := kp eY #[.slice none 0 0, .slice none 0 0, .slice none 0 0] hb; replace jQ := kp jQ #[.string (⟨#[83, 117, 98, 106, 101, 99, 116]⟩ : ByteArray), .string vU] hb; replace HB := bz HB hb; clear hb; have z59 := kK eY.out))
     refine bodyPost_ret (lC rfl _ _ xw 28 #[.slice none 0 0, .slice none 0 0, .slice none 0 0] (0, 0) _ rfl bq Tryz.underlying28 rfl (by kernel_rfl)) rfl ?_
     exact ⟨_, _, _, er, nx, nx, nx, bb⟩
   ·
    obtain ⟨rfl, rfl, rfl, rfl⟩ := s4 H
    go_enter Tryz.func167, Tryz.ntmps167
    go_wp2_with (first | (refine bX HB 4 #[.slice none 0 0, .slice none 0 0, .slice none 0 0] 28 ?_; intro xw QC eY V6 hb; replace HB := bs HB hb; clear hb) | (refine gB Tryz.func194 (bG.calls A3.out) ?_; intro w61 hb; replace eY := kb eY hb; replace HB := bz HB hb; clear hb) | (refine gB Tryz.func195 (lJ.calls A4.out) ?_; intro w62 hb; replace eY := kb eY hb; replace HB := bz HB hb; clear hb) | (refine gV Tryz.func196 (jC.calls A5.out) ?_; rintro aeD w63 ⟨ho0, hb⟩; have kF := ak (Kd.aC ho0 (aj bb)); replace eY := kb eY hb; replace HB := bz HB hb; clear hb; (try clear ho0)) | (refine bY HB 12 #[.string (⟨#[]⟩ : ByteArray), .string (⟨#[]⟩ : ByteArray)] 69 ?_; intro oD w64 jQ V7 hg hb; have rZ := Ba eY hg; have r_ := Bc eY hg; replace kF := rb kF hb; replace eY := kb eY hb; replace HB := bz HB hb; clear hb hg; have aCE := r_.out; have aCF := rZ.out; have z66 := zC jQ.out; have z67 := kK eY.out))
    refine bodyPost_ret (lC rfl _ _ xw 28 #[.slice none 0 0, .slice none 0 0, .slice none 0 0] (0, 0) _ rfl bq Tryz.underlying28 rfl (by kernel_rfl)) rfl ?_
    exact ⟨_, _, _, er, nx, nx, nx, bb⟩
  ·
   obtain ⟨rfl, rfl, rfl, rfl⟩ := s4 H
   go_enter Tryz.func167, Tryz.ntmps167
   go_wp2_with (first | (refine bX HB 4 #[.slice none 0 0, .slice none 0 0, .slice none 0 0] 28 ?_; intro xw w68 eY V6 hb; replace HB := bs HB hb; clear hb) | (refine gB Tryz.func194 (bG.calls A3.out) ?_; intro w69 hb; replace eY := kb eY hb; replace HB := bz HB hb; clear hb) | (refine gB Tryz.func195 (lJ.calls A4.out) ?_; intro w70 hb; replace eY := kb eY hb; replace HB := bz HB hb; clear hb) | (refine gV Tryz.func196 (jC.calls A5.out) ?_; rintro aeD w71 ⟨ho0, hb⟩; have kF := ak (Kd.aC ho0 (aj bb)); replace eY := kb eY hb; replace HB := bz HB hb; clear hb; (try clear ho0)) | (refine bY HB 12 #[.string (⟨#[]⟩ : ByteArray), .string (⟨#[]⟩ : ByteArray)] 69 ?_; intro oD w72 jQ V7 hg hb; have rZ := Ba eY hg; have r_ := Bc eY hg; replace kF := rb kF hb; replace eY := kb eY hb; replace HB := bz HB hb; clear hb hg; have aCG := r_.out; have aCH := rZ.out; have z74 := zC jQ.out; have z75 := kK eY.out))
   refine bodyPost_ret (lC rfl _ _ xw 28 #[.slice none 0 0, .slice none 0 0, .slice none 0 0] (0, 0) _ rfl bq Tryz.underlying28 rfl (by kernel_rfl)) rfl ?_
   exact ⟨_, _, _, er, nx, nx, nx, bb⟩
 ·
  obtain ⟨rfl, rfl, rfl, rfl⟩ := s4 H
  go_enter Tryz.func167, Tryz.ntmps167
  go_wp2_with (first | (refine bX HB 4 #[.slice none 0 0, .slice none 0 0, .slice none 0 0] 28 ?_; intro xw w76 eY V6 hb; replace HB := bs HB hb; clear hb) | (refine gB Tryz.func194 (bG.calls A3.out) ?_; intro w77 hb; replace eY := kb eY hb; replace HB := bz HB hb; clear hb) | (refine gB Tryz.func195 (lJ.calls A4.out) ?_; intro w78 hb; replace eY := kb eY hb; replace HB := bz HB hb; clear hb) | (refine gV Tryz.func196 (jC.calls A5.out) ?_; rintro aeD w79 ⟨ho0, hb⟩; have kF := ak (Kd.aC ho0 (aj bb)); replace eY := kb eY hb; replace HB := bz HB hb; clear hb; (try clear ho0)) | (refine bY HB 12 #[.string (⟨#[]⟩ : ByteArray), .string (⟨#[]⟩ : ByteArray)] 69 ?_; intro oD w80 jQ V7 hg hb; have rZ := Ba eY hg; have r_ := Bc eY hg; replace kF := rb kF hb; replace eY := kb eY hb; replace HB := bz HB hb; clear hb hg; have aoU := r_.out; have aoV := rZ.out; have z82 := zC jQ.out; have z83 := kK eY.out))
  refine bodyPost_ret (lC rfl _ _ xw 28 #[.slice none 0 0, .slice none 0 0, .slice none 0 0] (0, 0) _ rfl bq Tryz.underlying28 rfl (by kernel_rfl)) rfl ?_
  exact ⟨_, _, _, er, nx, nx, nx, bb⟩
def rJ.f (k : Nat) (a0 : ByteArray) (a1 : ByteArray) : Option ((List (gX)) × List ByteArray × (List (nG)) × Bool) := (gq.f k a0 a1).bind fun aas => ((iG.f k aas.1 aas.2.1 aas.2.2.1).bind fun aeH => (some (aeH.1, aeH.2.1, aeH.2.2, aas.2.2.2)))
theorem rJ.calls {k : Nat} {a0 a1 : ByteArray} {r1 : List (gX)} {r2 : List ByteArray} {r3 : List (nG)} {r4 : Bool} {w : World} (h : rJ.f k a0 a1 = some (r1, r2, r3, r4)) :
  Calls Tryz.prog 142 #[.string a0, .string a1] w fun e w' => ∃ oV Di EG : Value, e = .returned (.tuple #[.agg #[oV, Di, EG], .bool r4]) ∧ Kd.R qI 69 w' w.heap.size (fun _ => True) oV r1 ∧ Kd.R Kd.string 9 w' w.heap.size (fun _ => True) Di r2 ∧ Kd.R k28 28 w' w.heap.size (fun k_ => some k_ ≠ (oV : Value).ownBlock ∧ some k_ ≠ (Di : Value).ownBlock) EG r3 ∧ Below w.heap.size w w' := by
 have EH := Tryz.underlying28
 have HB := ak (Below.refl w.heap.size w)
 unfold rJ.f at h; have H := h
 clear h
 replace H := bd H
 obtain ⟨⟨Wh, Wi, X0, aIh⟩, A3, H⟩ := H
 (try dsimp only at H)
 replace H := bd H
 obtain ⟨⟨azL, azM, azN⟩, A4, H⟩ := H
 (try dsimp only at H)
 obtain ⟨rfl, rfl, rfl, rfl⟩ := s4 H
 go_enter Tryz.func142, Tryz.ntmps142
 go_wp2_with (first | (refine bX HB 4 #[.slice none 0 0, .slice none 0 0, .slice none 0 0] 28 ?_; intro aat w5 Hf aCI hb; replace HB := bs HB hb; clear hb) | (refine gL 167 11 Tryz.func167 #[.string a0, .string a1] ?_; (with_reducible refine (gq.calls A3.out).mono ?_); rintro e w6 ⟨aIi, aIj, aIk, rfl, ho0, ho1, ho2, hb⟩; refine ⟨_, rfl, ?_⟩; have JY := ak (Kd.aC ho0 (aj bb)); have JZ := ak (Kd.aC ho1 (aj bb)); have Ns := ak (Kd.aC (Kd.nH ho2 (g := aat) (o := .cells #[.slice none 0 0, .slice none 0 0, .slice none 0 0] 28 (0, 0)) (ub Hf.out)) (aj bb)); replace Hf := kb Hf hb; replace HB := bz HB hb; clear hb; (try clear ho0); (try clear ho1); (try clear ho2)) | (refine bY HB 6 #[.slice none 0 0, .slice none 0 0, .slice none 0 0] 28 ?_; intro Aj w7 aeI aCJ hg hb; have abM := Ba Hf hg; have abN := Bc Hf hg; replace JY := rb JY hb; replace JZ := rb JZ hb; replace Ns := ak (Kd.sQ (Kd.yJ (ur Ns.out) Aj (Nat.le_of_eq hg.symm)) hb); replace Hf := kb Hf hb; replace HB := bz HB hb; clear hb hg; obtain ⟨Ao8, WR, eo8⟩ := Kd.aI JY.out; subst eo8; have axk := abN.out; have axl := abM.out; have z10 := kK aeI.out; obtain ⟨yc, wM, PI⟩ := Kd.aI JZ.out; subst PI; obtain ⟨y7, xP, OT⟩ := Kd.aI Ns.out; subst OT) | (refine gL 61 15 Tryz.func61 #[.agg #[.slice Ao8 Wh.length WR, .slice yc Wi.length wM, .slice y7 X0.length xP]] ?_; (with_reducible refine (iG.calls ?fZ ((Kd.ay JY.out).2.1) ?yO ((Kd.ay JZ.out).2.1) ?yP ((Kd.ay Ns.out).2.1) A4.out).mono ?_); (case fZ => refine (Kd.ay (e := 69) (base := w.heap.size) (ok := fun k_ => True) (n := Wh.length) (c := WR) ?_).2.2; exact (rh JY)); (case yO => refine (Kd.ay (e := 9) (base := w.heap.size) (ok := fun k_ => True) (n := Wi.length) (c := wM) ?_).2.2; exact (rh JZ)); (case yP => refine (Kd.ay (e := 28) (base := w.heap.size) (ok := fun k_ => (((some k_ ≠ (.slice Ao8 Wh.length WR : Value).ownBlock ∧ some k_ ≠ (.slice yc Wi.length wM : Value).ownBlock) ∧ k_ ≠ aat) ∧ k_ ≠ Aj)) (n := X0.length) (c := xP) ?_).2.2; exact (ur (Kd.aY (Kd.lK (p := ⟨Aj, 2, none⟩) (Kd.lK (p := ⟨Aj, 1, none⟩) (Kd.lK (p := ⟨Aj, 0, none⟩) (Kd.aY Ns.out (fun k_ hk => (⟨hk, hk.2⟩ : _ ∧ k_ ≠ Aj))) (fun _ hk => hk.2) (.slice Ao8 Wh.length WR)) (fun _ hk => hk.2) (.slice yc Wi.length wM)) (fun _ hk => hk.2) (.slice y7 X0.length xP)) (fun _ h_ => h_.1)))); rintro e w13 ⟨aIl, aIm, aIn, rfl, ho0, ho1, ho2, hb⟩; refine ⟨_, rfl, ?_⟩; have avb := ak (Kd.aC (Kd.dR ho0 (Kd.jh (rh JY))) (aj bb)); have avc := ak (Kd.aC (Kd.dR ho1 (Kd.jh (rh JZ))) (aj bb)); have avd := ak (Kd.aC (Kd.nH (Kd.nH (Kd.dR (Kd.dR (Kd.dR ho2 (Kd.jh (rh JY))) (Kd.jh (rh JZ))) (Kd.jh (ur (Kd.aY (Kd.lK (p := ⟨Aj, 2, none⟩) (Kd.lK (p := ⟨Aj, 1, none⟩) (Kd.lK (p := ⟨Aj, 0, none⟩) (Kd.aY Ns.out (fun k_ hk => (⟨hk, hk.2⟩ : _ ∧ k_ ≠ Aj))) (fun _ hk => hk.2) (.slice Ao8 Wh.length WR)) (fun _ hk => hk.2) (.slice yc Wi.length wM)) (fun _ hk => hk.2) (.slice y7 X0.length xP)) (fun _ h_ => h_.1))))) (g := aat) (o := .cells #[.slice none 0 0, .slice none 0 0, .slice none 0 0] 28 (0, 0)) bq) (g := Aj) (o := .cells #[.slice Ao8 Wh.length WR, .slice yc Wi.length wM, .slice y7 X0.length xP] 28 (0, 0)) bq) (aj bb)); replace JY := ak (Kd.bH (rh JY) (Kd.bZ ho0) hb); replace JZ := ak (Kd.bH (rh JZ) (Kd.bZ ho1) hb); replace Ns := ak (Kd.aY (Kd.sS (Kd.sS (Kd.sS (Kd.acD (ur (Kd.aY (Kd.lK (p := ⟨Aj, 2, none⟩) (Kd.lK (p := ⟨Aj, 1, none⟩) (Kd.lK (p := ⟨Aj, 0, none⟩) (Kd.aY Ns.out (fun k_ hk => (⟨hk, hk.2⟩ : _ ∧ k_ ≠ Aj))) (fun _ hk => hk.2) (.slice Ao8 Wh.length WR)) (fun _ hk => hk.2) (.slice yc Wi.length wM)) (fun _ hk => hk.2) (.slice y7 X0.length xP)) (fun _ h_ => h_.1))) hb) (Kd.bZ ho0)) (Kd.bZ ho1)) (Kd.bZ ho2)) (fun _ h_ => h_.1)); replace Hf := kp Hf #[.slice none 0 0, .slice none 0 0, .slice none 0 0] hb; replace aeI := kp aeI #[.slice Ao8 Wh.length WR, .slice yc Wi.length wM, .slice y7 X0.length xP] hb; replace HB := bz HB hb; clear hb; (try clear ho0); (try clear ho1); (try clear ho2); obtain ⟨abh, abj, Xa⟩ := Kd.aI avb.out; subst Xa; have z15 := kK Hf.out; obtain ⟨Vb, Vd, TD⟩ := Kd.aI avc.out; subst TD; obtain ⟨Gy, Fa, VN⟩ := Kd.aI avd.out; subst VN))
 refine bodyPost_ret (lC rfl _ _ aat 28 #[.slice abh azL.length abj, .slice Vb azM.length Vd, .slice Gy azN.length Fa] (0, 0) _ rfl bq Tryz.underlying28 rfl (by kernel_rfl)) rfl ?_
 exact ⟨_, _, _, er, rr, rr, rr, bb⟩
mutual
def iJ.l0 : Nat → ByteArray → Int → List Int → Int → Option (ByteArray × Int)
 | 0, _, _, _, _ => none
 | k + 1, x3, x4, x1000, oC => if x4 > 0 then ((fH.f k x1000 oC (([(⟨#[104, 101, 108, 108, 111]⟩ : ByteArray), (⟨#[32]⟩ : ByteArray), (⟨#[61]⟩ : ByteArray), (⟨#[10]⟩ : ByteArray), (⟨#[255, 0]⟩ : ByteArray), (⟨#[99, 97, 102, 195, 169]⟩ : ByteArray), (⟨#[97, 32, 108, 111, 110, 103, 101, 114, 32, 114, 111, 119, 32, 111, 102, 32, 119, 111, 114, 100, 115, 32, 116, 104, 97, 116, 32, 105, 115, 32, 98, 114, 111, 107, 101, 110, 32, 104, 101, 114, 101]⟩ : ByteArray), (⟨#[120]⟩ : ByteArray), (⟨#[46]⟩ : ByteArray), (⟨#[9]⟩ : ByteArray)] : List ByteArray))).bind fun aeJ => (if x3.size + aeJ.1.size ≤ 9223372036854775807 then (iJ.l0 k (x3 ++ aeJ.1) (wrap64 (x4 - 1)) x1000 aeJ.2) else (none))) else ((b_.f k x1000 oC 40).bind fun aeK => (if aeK.1 = 0 then (iJ.l1 k x3 x1000 aeK.2) else (some (x3, aeK.2))))
def iJ.l1 : Nat → ByteArray → List Int → Int → Option (ByteArray × Int)
 | 0, _, _, _ => none
 | k + 1, x3, x1000, oC => if (x3.size : Int) ≤ 300 then (if x3.size + 10 ≤ 9223372036854775807 then (iJ.l1 k (x3 ++ (⟨#[48, 49, 50, 51, 52, 53, 54, 55, 56, 57]⟩ : ByteArray)) x1000 oC) else (none)) else (some (x3, oC))
end
def iJ.f (k : Nat) (fB : List Int) (ku : Int) : Option (ByteArray × Int) := (jY.f k fB ku (([3, 2, 5, 1, 0, 8] : List Int))).bind fun akz => (iJ.l0 k (⟨#[]⟩ : ByteArray) akz.1 fB akz.2)
theorem iJ.calls {k g : Nat} {fB : List Int} {ku r2 : Int} {r1 : ByteArray} {w : World} (w0 : World) (hI : aN w0 w g fB ku) (hB : Below w0.heap.size w0 w) (h : iJ.f k fB ku = some (r1, r2)) :
  Calls Tryz.prog 143 #[.pointer (some ⟨g, 0, none⟩)] w fun e w' => e = .returned (.string r1) ∧ aN w0 w' g fB r2 ∧ Below w0.heap.size w0 w' ∧ aJ w w' g none := by
 have HI0 := ak hI
 have HK := ak (aJ.refl w g none)
 have HL := ak hB.size
 clear hI
 have HW0 := ak hB.size
 have HB := ak hB
 clear hB
 unfold iJ.f at h; have H := h
 clear h
 obtain ⟨azO, akA⟩ := nm ([3, 2, 5, 1, 0, 8] : List Int)
 rw [← akA.out] at H
 replace H := bd H
 obtain ⟨⟨aIo, aIp⟩, A2, H⟩ := H
 (try dsimp only at H)
 have H' := ak H; clear H
 go_enter Tryz.func143, Tryz.ntmps143
 go_wp2_with (first | (refine QD 6 (Kd.int .i64) 3 [.int .i64 3, .int .i64 2, .int .i64 5, .int .i64 1, .int .i64 0, .int .i64 8] akA (dh.one (show Kd.M (Kd.int .i64) _ _ _ 3 [.int .i64 3] from rfl) (dh.one (show Kd.M (Kd.int .i64) _ _ _ 2 [.int .i64 2] from rfl) (dh.one (show Kd.M (Kd.int .i64) _ _ _ 5 [.int .i64 5] from rfl) (dh.one (show Kd.M (Kd.int .i64) _ _ _ 1 [.int .i64 1] from rfl) (dh.one (show Kd.M (Kd.int .i64) _ _ _ 0 [.int .i64 0] from rfl) (dh.one (show Kd.M (Kd.int .i64) _ _ _ 8 [.int .i64 8] from rfl) (dh.none _ _))))))) ?_; intro aIq w3 Ro hb; have Rx := ak (Kd.aC Ro (dG (w := w) (g := g) (row := none) (kh HK.out))); replace HK := ak (aJ.trans (kh HK.out) (aJ.of_below hb g none) (.inl rfl)); replace HB := ak (iD oJ hb); replace HI0 := ak (aN.below oI hb); clear hb Ro; obtain ⟨Ao5, co5, eo5⟩ := Kd.aI Rx.out; subst eo5) | (refine gL 97 7 Tryz.func97 #[.pointer (some ⟨g, 0, none⟩), .slice Ao5 azO.length co5] ?_; (with_reducible refine (jY.calls w0 ?fZ ?jc (cu ((Kd.ay Rx.out).2.2)) ((Kd.ay Rx.out).2.1) (nU (aN.own_ne HI0.out Rx.out (by decide))) A2.out).mono ?_); (case fZ => exact oI); (case jc => exact oJ); rintro e w6 ⟨rfl, hi, hb, hk⟩; refine ⟨_, rfl, ?_⟩; replace Rx := ki Rx hk; replace HK := kt HK hk; replace HB := ak (hb); replace HI0 := ak (hi); clear hb; (try clear hk); (try clear hi)))
 go_loopg [3, 4] k (fun kq v3 v4 w' => ∃ (dW : ByteArray) (eP : Int) (xA : Int), v3 = .string dW ∧ v4 = .int .i64 eP ∧ ah (iJ.l0 kq dW eP fB xA = some (r1, r2)) ∧ ah (kq ≤ k) ∧ ah (aN w0 w' g fB xA) ∧ ah (aJ w w' g none) ∧ ah (Below w0.heap.size w0 w'))
 case atStart => exact ⟨_, _, _, rs, rs, H', ⟨Nat.le_refl _⟩, ⟨oI⟩, ⟨kh HK.out⟩, ⟨oJ⟩⟩
 case round =>
  clear H'
  obtain ⟨dW, eP, xA, rfl, rfl, HA, xI, HI0, HK, HB⟩ := hrel
  cases gk with
  | zero => exact zz HA.out
  | succ k1 =>
   obtain ⟨H⟩ := HA
   simp only [iJ.l0] at H
   replace H := sp H
   rcases H with ⟨c7, H⟩ | ⟨c7, H⟩
   ·
    have rF : decide (0 < eP) = true := decide_eq_true c7
    clear c7
    obtain ⟨azP, akB⟩ := nm ([(⟨#[104, 101, 108, 108, 111]⟩ : ByteArray), (⟨#[32]⟩ : ByteArray), (⟨#[61]⟩ : ByteArray), (⟨#[10]⟩ : ByteArray), (⟨#[255, 0]⟩ : ByteArray), (⟨#[99, 97, 102, 195, 169]⟩ : ByteArray), (⟨#[97, 32, 108, 111, 110, 103, 101, 114, 32, 114, 111, 119, 32, 111, 102, 32, 119, 111, 114, 100, 115, 32, 116, 104, 97, 116, 32, 105, 115, 32, 98, 114, 111, 107, 101, 110, 32, 104, 101, 114, 101]⟩ : ByteArray), (⟨#[120]⟩ : ByteArray), (⟨#[46]⟩ : ByteArray), (⟨#[9]⟩ : ByteArray)] : List ByteArray)
    rw [← akB.out] at H
    replace H := bd H
    obtain ⟨⟨azQ, aIr⟩, A8, H⟩ := H
    (try dsimp only at H)
    replace H := nn H; obtain ⟨c9, H⟩ := H
    have xY := eq_true c9
    have EN := decide_eq_true c9
    try have apt : (9223372036854775807 < dW.size + azQ.size) = False := eq_false (Nat.not_lt.2 c9)
    have H' := ak H; clear H
    go_wp2_with (first | (refine QD 14 Kd.string 9 [.string (⟨#[104, 101, 108, 108, 111]⟩ : ByteArray), .string (⟨#[32]⟩ : ByteArray), .string (⟨#[61]⟩ : ByteArray), .string (⟨#[10]⟩ : ByteArray), .string (⟨#[255, 0]⟩ : ByteArray), .string (⟨#[99, 97, 102, 195, 169]⟩ : ByteArray), .string (⟨#[97, 32, 108, 111, 110, 103, 101, 114, 32, 114, 111, 119, 32, 111, 102, 32, 119, 111, 114, 100, 115, 32, 116, 104, 97, 116, 32, 105, 115, 32, 98, 114, 111, 107, 101, 110, 32, 104, 101, 114, 101]⟩ : ByteArray), .string (⟨#[120]⟩ : ByteArray), .string (⟨#[46]⟩ : ByteArray), .string (⟨#[9]⟩ : ByteArray)] akB (dh.one (show Kd.M Kd.string _ _ _ (⟨#[104, 101, 108, 108, 111]⟩ : ByteArray) [.string (⟨#[104, 101, 108, 108, 111]⟩ : ByteArray)] from rfl) (dh.one (show Kd.M Kd.string _ _ _ (⟨#[32]⟩ : ByteArray) [.string (⟨#[32]⟩ : ByteArray)] from rfl) (dh.one (show Kd.M Kd.string _ _ _ (⟨#[61]⟩ : ByteArray) [.string (⟨#[61]⟩ : ByteArray)] from rfl) (dh.one (show Kd.M Kd.string _ _ _ (⟨#[10]⟩ : ByteArray) [.string (⟨#[10]⟩ : ByteArray)] from rfl) (dh.one (show Kd.M Kd.string _ _ _ (⟨#[255, 0]⟩ : ByteArray) [.string (⟨#[255, 0]⟩ : ByteArray)] from rfl) (dh.one (show Kd.M Kd.string _ _ _ (⟨#[99, 97, 102, 195, 169]⟩ : ByteArray) [.string (⟨#[99, 97, 102, 195, 169]⟩ : ByteArray)] from rfl) (dh.one (show Kd.M Kd.string _ _ _ (⟨#[97, 32, 108, 111, 110, 103, 101, 114, 32, 114, 111, 119, 32, 111, 102, 32, 119, 111, 114, 100, 115, 32, 116, 104, 97, 116, 32, 105, 115, 32, 98, 114, 111, 107, 101, 110, 32, 104, 101, 114, 101]⟩ : ByteArray) [.string (⟨#[97, 32, 108, 111, 110, 103, 101, 114, 32, 114, 111, 119, 32, 111, 102, 32, 119, 111, 114, 100, 115, 32, 116, 104, 97, 116, 32, 105, 115, 32, 98, 114, 111, 107, 101, 110, 32, 104, 101, 114, 101]⟩ : ByteArray)] from rfl) (dh.one (show Kd.M Kd.string _ _ _ (⟨#[120]⟩ : ByteArray) [.string (⟨#[120]⟩ : ByteArray)] from rfl) (dh.one (show Kd.M Kd.string _ _ _ (⟨#[46]⟩ : ByteArray) [.string (⟨#[46]⟩ : ByteArray)] from rfl) (dh.one (show Kd.M Kd.string _ _ _ (⟨#[9]⟩ : ByteArray) [.string (⟨#[9]⟩ : ByteArray)] from rfl) (dh.none _ _))))))))))) ?_; intro aIs w10 ave hb; have Ry := ak (Kd.aC ave (dG (w := w) (g := g) (row := none) (kh HK.out))); replace HK := ak (aJ.trans (kh HK.out) (aJ.of_below hb g none) (.inl rfl)); replace HB := ak (iD oJ hb); replace HI0 := ak (aN.below oI hb); clear hb ave; obtain ⟨y7, xP, OT⟩ := Kd.aI Ry.out; subst OT) | (refine gL 58 15 Tryz.func58 #[.pointer (some ⟨g, 0, none⟩), .slice y7 azP.length xP] ?_; (with_reducible refine (fH.calls w0 ?fZ ?jc (cu ((Kd.ay Ry.out).2.2)) ((Kd.ay Ry.out).2.1) (nU (aN.own_ne HI0.out Ry.out (by decide))) A8.out).mono ?_); (case fZ => exact oI); (case jc => exact oJ); rintro e w13 ⟨rfl, hi, hb, hk⟩; refine ⟨_, rfl, ?_⟩; replace Ry := ki Ry hk; replace HK := kt HK hk; replace HB := ak (hb); replace HI0 := ak (hi); clear hb; (try clear hk); (try clear hi)))
    go_roundg k1
    case measure => exact kl
    case rel => exact ⟨_, _, _, rs, rs, H', ⟨kl⟩, ⟨oI⟩, ⟨kh HK.out⟩, ⟨oJ⟩⟩
   ·
    have rF : decide (0 < eP) = false := decide_eq_false c7
    clear c7
    replace H := bd H
    obtain ⟨⟨aIt, avf⟩, A14, H⟩ := H
    (try dsimp only at H)
    replace H := sq H
    rcases H with ⟨vC, ER, H⟩ | ⟨c15, vC, ER, H⟩
    ·
     have H' := ak H; clear H
     go_wp2_with (refine gL 57 18 Tryz.func57 #[.pointer (some ⟨g, 0, none⟩), .int .i64 40] ?_; (with_reducible refine (b_.calls w0 ?fZ ?jc A14.out).mono ?_); (case fZ => exact oI); (case jc => exact oJ); rintro e w16 ⟨rfl, hi, hb, hk⟩; refine ⟨_, rfl, ?_⟩; replace HK := kt HK hk; replace HB := ak (hb); replace HI0 := ak (hi); clear hb; (try clear hk); (try clear hi))
     go_loopg [3] k1 (fun kq v3 w' => ∃ (kV : ByteArray), v3 = .string kV ∧ ah (iJ.l1 kq kV fB avf = some (r1, r2)) ∧ ah (kq ≤ k1) ∧ ah (aN w0 w' g fB avf) ∧ ah (aJ w w' g none) ∧ ah (Below w0.heap.size w0 w'))
     case atStart => exact ⟨_, rs, H', ⟨Nat.le_refl _⟩, ⟨oI⟩, ⟨kh HK.out⟩, ⟨oJ⟩⟩
     case round =>
      clear H'
      try clear c7
      try clear rF
      try clear c15
      try clear vC
      try clear ER
      obtain ⟨kV, rfl, HA, MJ, HI0, HK, HB⟩ := hrel
      cases gk with
      | zero => exact zz HA.out
      | succ k2 =>
       obtain ⟨H⟩ := HA
       simp only [iJ.l1] at H
       replace H := sp H
       rcases H with ⟨c17, H⟩ | ⟨c17, H⟩
       ·
        have sJ := decide_eq_true c17
        have Nb : decide (kV.size ≤ 300) = true := decide_eq_true (by omega)
        clear c17
        replace H := nn H; obtain ⟨c18, H⟩ := H
        have vF := eq_true c18
        have I9 := decide_eq_true c18
        try have ZA : (9223372036854775807 < kV.size + 10) = False := eq_false (Nat.not_lt.2 c18)
        have H' := ak H; clear H
        go_wp2
        go_roundg k2
        case measure => exact kl
        case rel => exact ⟨_, rs, H', ⟨kl⟩, ⟨oI⟩, ⟨kh HK.out⟩, ⟨oJ⟩⟩
       ·
        have sJ := decide_eq_false c17
        have Nb : decide (kV.size ≤ 300) = false := decide_eq_false (by omega)
        clear c17
        obtain ⟨rfl, rfl⟩ := s2 H
        go_wp2
        go_ret
        exact ⟨er, oI, oJ, kh HK.out⟩
    ·
     obtain ⟨rfl, rfl⟩ := s2 H
     go_wp2_with (refine gL 57 18 Tryz.func57 #[.pointer (some ⟨g, 0, none⟩), .int .i64 40] ?_; (with_reducible refine (b_.calls w0 ?fZ ?jc A14.out).mono ?_); (case fZ => exact oI); (case jc => exact oJ); rintro e Zb ⟨rfl, hi, hb, hk⟩; refine ⟨_, rfl, ?_⟩; replace HK := kt HK hk; replace HB := ak (hb); replace HI0 := ak (hi); clear hb; (try clear hk); (try clear hi))
     go_ret
     exact ⟨er, oI, oJ, kh HK.out⟩
def uQ.f (k : Nat) (fB : List Int) (ku : Int) : Option (ByteArray × ByteArray × Int) := (fH.f k fB ku (([(⟨#[84, 111]⟩ : ByteArray), (⟨#[70, 114, 111, 109]⟩ : ByteArray), (⟨#[83, 117, 98, 106, 101, 99, 116]⟩ : ByteArray), (⟨#[88, 45, 89]⟩ : ByteArray), (⟨#[82, 101, 99, 101, 105, 118, 101, 100]⟩ : ByteArray), (⟨#[116, 111]⟩ : ByteArray), (⟨#[68, 97, 116, 101]⟩ : ByteArray)] : List ByteArray))).bind fun akC => ((fH.f k fB akC.2 (([(⟨#[]⟩ : ByteArray), (⟨#[120]⟩ : ByteArray), (⟨#[97, 32, 98]⟩ : ByteArray), (⟨#[104, 101, 108, 108, 111, 32, 116, 104, 101, 114, 101, 44, 32, 116, 104, 105, 115, 32, 105, 115, 32, 97, 32, 108, 111, 110, 103, 101, 114, 32, 118, 97, 108, 117, 101, 32, 116, 104, 97, 116, 32, 105, 115, 32, 98, 114, 111, 107, 101, 110]⟩ : ByteArray), (⟨#[97, 97, 97, 97, 97, 97, 97, 97, 97, 97, 97, 97, 97, 97, 97, 97, 97, 97, 97, 97, 97, 97, 97, 97, 97, 97, 97, 97, 97, 97, 97, 97, 97, 97, 97, 97, 97, 97, 97, 97, 97, 97, 97, 97, 97, 97, 97, 97, 97, 97, 97, 32, 98]⟩ : ByteArray), (⟨#[116, 119, 111, 32, 32, 115, 112, 97, 99, 101, 115, 32, 115, 116, 97, 121, 32, 32, 116, 111, 103, 101, 116, 104, 101, 114, 32, 105, 110, 32, 104, 101, 114, 101, 44, 32, 97, 110, 100, 32, 115, 111, 32, 100, 111, 32, 116, 104, 101, 115, 101, 32, 32, 111, 110, 101, 115]⟩ : ByteArray), (⟨#[97, 58, 98]⟩ : ByteArray), (⟨#[111, 110, 101, 32, 116, 119, 111, 32, 116, 104, 114, 101, 101, 32, 102, 111, 117, 114, 32, 102, 105, 118, 101, 32, 115, 105, 120, 32, 115, 101, 118, 101, 110, 32, 101, 105, 103, 104, 116, 32, 110, 105, 110, 101, 32, 116, 101, 110, 32, 101, 108, 101, 118, 101, 110]⟩ : ByteArray)] : List ByteArray))).bind fun akD => (some (akC.1, akD.1, akD.2)))
theorem uQ.calls {k g : Nat} {fB : List Int} {ku r3 : Int} {r1 r2 : ByteArray} {w : World} (w0 : World) (hI : aN w0 w g fB ku) (hB : Below w0.heap.size w0 w) (h : uQ.f k fB ku = some (r1, r2, r3)) :
  Calls Tryz.prog 168 #[.pointer (some ⟨g, 0, none⟩)] w fun e w' => e = .returned (.agg #[.string r1, .string r2]) ∧ aN w0 w' g fB r3 ∧ Below w0.heap.size w0 w' ∧ aJ w w' g none := by
 have Dn := Tryz.underlying69
 have HI0 := ak hI
 have HK := ak (aJ.refl w g none)
 have HL := ak hB.size
 clear hI
 have HW0 := ak hB.size
 have HB := ak hB
 clear hB
 unfold uQ.f at h; have H := h
 clear h
 obtain ⟨azR, akE⟩ := nm ([(⟨#[84, 111]⟩ : ByteArray), (⟨#[70, 114, 111, 109]⟩ : ByteArray), (⟨#[83, 117, 98, 106, 101, 99, 116]⟩ : ByteArray), (⟨#[88, 45, 89]⟩ : ByteArray), (⟨#[82, 101, 99, 101, 105, 118, 101, 100]⟩ : ByteArray), (⟨#[116, 111]⟩ : ByteArray), (⟨#[68, 97, 116, 101]⟩ : ByteArray)] : List ByteArray)
 rw [← akE.out] at H
 replace H := bd H
 obtain ⟨⟨azS, avg⟩, A2, H⟩ := H
 (try dsimp only at H)
 obtain ⟨azT, akF⟩ := nm ([(⟨#[]⟩ : ByteArray), (⟨#[120]⟩ : ByteArray), (⟨#[97, 32, 98]⟩ : ByteArray), (⟨#[104, 101, 108, 108, 111, 32, 116, 104, 101, 114, 101, 44, 32, 116, 104, 105, 115, 32, 105, 115, 32, 97, 32, 108, 111, 110, 103, 101, 114, 32, 118, 97, 108, 117, 101, 32, 116, 104, 97, 116, 32, 105, 115, 32, 98, 114, 111, 107, 101, 110]⟩ : ByteArray), (⟨#[97, 97, 97, 97, 97, 97, 97, 97, 97, 97, 97, 97, 97, 97, 97, 97, 97, 97, 97, 97, 97, 97, 97, 97, 97, 97, 97, 97, 97, 97, 97, 97, 97, 97, 97, 97, 97, 97, 97, 97, 97, 97, 97, 97, 97, 97, 97, 97, 97, 97, 97, 32, 98]⟩ : ByteArray), (⟨#[116, 119, 111, 32, 32, 115, 112, 97, 99, 101, 115, 32, 115, 116, 97, 121, 32, 32, 116, 111, 103, 101, 116, 104, 101, 114, 32, 105, 110, 32, 104, 101, 114, 101, 44, 32, 97, 110, 100, 32, 115, 111, 32, 100, 111, 32, 116, 104, 101, 115, 101, 32, 32, 111, 110, 101, 115]⟩ : ByteArray), (⟨#[97, 58, 98]⟩ : ByteArray), (⟨#[111, 110, 101, 32, 116, 119, 111, 32, 116, 104, 114, 101, 101, 32, 102, 111, 117, 114, 32, 102, 105, 118, 101, 32, 115, 105, 120, 32, 115, 101, 118, 101, 110, 32, 101, 105, 103, 104, 116, 32, 110, 105, 110, 101, 32, 116, 101, 110, 32, 101, 108, 101, 118, 101, 110]⟩ : ByteArray)] : List ByteArray)
 rw [← akF.out] at H
 replace H := bd H
 obtain ⟨⟨azU, aIu⟩, A3, H⟩ := H
 (try dsimp only at H)
 obtain ⟨rfl, rfl, rfl⟩ := s3 H
 go_enter Tryz.func168, Tryz.ntmps168
 go_wp2_with (first | (refine bS HI0 HK HB HW0 2 #[.string (⟨#[]⟩ : ByteArray), .string (⟨#[]⟩ : ByteArray)] 69 ?_; clear HI0 HK HB; intro avh w4 J3 aCK aCL ahl Us hg hb HI0 HK HB; clear hb hg) | (refine QD 4 Kd.string 9 [.string (⟨#[84, 111]⟩ : ByteArray), .string (⟨#[70, 114, 111, 109]⟩ : ByteArray), .string (⟨#[83, 117, 98, 106, 101, 99, 116]⟩ : ByteArray), .string (⟨#[88, 45, 89]⟩ : ByteArray), .string (⟨#[82, 101, 99, 101, 105, 118, 101, 100]⟩ : ByteArray), .string (⟨#[116, 111]⟩ : ByteArray), .string (⟨#[68, 97, 116, 101]⟩ : ByteArray)] akE (dh.one (show Kd.M Kd.string _ _ _ (⟨#[84, 111]⟩ : ByteArray) [.string (⟨#[84, 111]⟩ : ByteArray)] from rfl) (dh.one (show Kd.M Kd.string _ _ _ (⟨#[70, 114, 111, 109]⟩ : ByteArray) [.string (⟨#[70, 114, 111, 109]⟩ : ByteArray)] from rfl) (dh.one (show Kd.M Kd.string _ _ _ (⟨#[83, 117, 98, 106, 101, 99, 116]⟩ : ByteArray) [.string (⟨#[83, 117, 98, 106, 101, 99, 116]⟩ : ByteArray)] from rfl) (dh.one (show Kd.M Kd.string _ _ _ (⟨#[88, 45, 89]⟩ : ByteArray) [.string (⟨#[88, 45, 89]⟩ : ByteArray)] from rfl) (dh.one (show Kd.M Kd.string _ _ _ (⟨#[82, 101, 99, 101, 105, 118, 101, 100]⟩ : ByteArray) [.string (⟨#[82, 101, 99, 101, 105, 118, 101, 100]⟩ : ByteArray)] from rfl) (dh.one (show Kd.M Kd.string _ _ _ (⟨#[116, 111]⟩ : ByteArray) [.string (⟨#[116, 111]⟩ : ByteArray)] from rfl) (dh.one (show Kd.M Kd.string _ _ _ (⟨#[68, 97, 116, 101]⟩ : ByteArray) [.string (⟨#[68, 97, 116, 101]⟩ : ByteArray)] from rfl) (dh.none _ _)))))))) ?_; intro aIv w5 Y8 hb; have Fj := ak (Kd.aC Y8 (dG (w := w) (g := g) (row := none) (kh HK.out))); replace J3 := kb J3 hb; replace HK := ak (aJ.trans (kh HK.out) (aJ.of_below hb g none) (.inl rfl)); replace HB := ak (iD oJ hb); replace HI0 := ak (aN.below oI hb); clear hb Y8; obtain ⟨Ao7, co7, eo7⟩ := Kd.aI Fj.out; subst eo7) | (refine gL 58 5 Tryz.func58 #[.pointer (some ⟨g, 0, none⟩), .slice Ao7 azR.length co7] ?_; (with_reducible refine (fH.calls w0 ?fZ ?jc (cu ((Kd.ay Fj.out).2.2)) ((Kd.ay Fj.out).2.1) (nU (aN.own_ne HI0.out Fj.out (by decide))) A2.out).mono ?_); (case fZ => exact oI); (case jc => exact oJ); rintro e w8 ⟨rfl, hi, hb, hk⟩; refine ⟨_, rfl, ?_⟩; replace J3 := kc J3 hk Us; replace Fj := ki Fj hk; replace HK := kt HK hk; replace HB := ak (hb); replace HI0 := ak (hi); clear hb; (try clear hk); (try clear hi)) | (refine QD 7 Kd.string 9 [.string (⟨#[]⟩ : ByteArray), .string (⟨#[120]⟩ : ByteArray), .string (⟨#[97, 32, 98]⟩ : ByteArray), .string (⟨#[104, 101, 108, 108, 111, 32, 116, 104, 101, 114, 101, 44, 32, 116, 104, 105, 115, 32, 105, 115, 32, 97, 32, 108, 111, 110, 103, 101, 114, 32, 118, 97, 108, 117, 101, 32, 116, 104, 97, 116, 32, 105, 115, 32, 98, 114, 111, 107, 101, 110]⟩ : ByteArray), .string (⟨#[97, 97, 97, 97, 97, 97, 97, 97, 97, 97, 97, 97, 97, 97, 97, 97, 97, 97, 97, 97, 97, 97, 97, 97, 97, 97, 97, 97, 97, 97, 97, 97, 97, 97, 97, 97, 97, 97, 97, 97, 97, 97, 97, 97, 97, 97, 97, 97, 97, 97, 97, 32, 98]⟩ : ByteArray), .string (⟨#[116, 119, 111, 32, 32, 115, 112, 97, 99, 101, 115, 32, 115, 116, 97, 121, 32, 32, 116, 111, 103, 101, 116, 104, 101, 114, 32, 105, 110, 32, 104, 101, 114, 101, 44, 32, 97, 110, 100, 32, 115, 111, 32, 100, 111, 32, 116, 104, 101, 115, 101, 32, 32, 111, 110, 101, 115]⟩ : ByteArray), .string (⟨#[97, 58, 98]⟩ : ByteArray), .string (⟨#[111, 110, 101, 32, 116, 119, 111, 32, 116, 104, 114, 101, 101, 32, 102, 111, 117, 114, 32, 102, 105, 118, 101, 32, 115, 105, 120, 32, 115, 101, 118, 101, 110, 32, 101, 105, 103, 104, 116, 32, 110, 105, 110, 101, 32, 116, 101, 110, 32, 101, 108, 101, 118, 101, 110]⟩ : ByteArray)] akF (dh.one (show Kd.M Kd.string _ _ _ (⟨#[]⟩ : ByteArray) [.string (⟨#[]⟩ : ByteArray)] from rfl) (dh.one (show Kd.M Kd.string _ _ _ (⟨#[120]⟩ : ByteArray) [.string (⟨#[120]⟩ : ByteArray)] from rfl) (dh.one (show Kd.M Kd.string _ _ _ (⟨#[97, 32, 98]⟩ : ByteArray) [.string (⟨#[97, 32, 98]⟩ : ByteArray)] from rfl) (dh.one (show Kd.M Kd.string _ _ _ (⟨#[104, 101, 108, 108, 111, 32, 116, 104, 101, 114, 101, 44, 32, 116, 104, 105, 115, 32, 105, 115, 32, 97, 32, 108, 111, 110, 103, 101, 114, 32, 118, 97, 108, 117, 101, 32, 116, 104, 97, 116, 32, 105, 115, 32, 98, 114, 111, 107, 101, 110]⟩ : ByteArray) [.string (⟨#[104, 101, 108, 108, 111, 32, 116, 104, 101, 114, 101, 44, 32, 116, 104, 105, 115, 32, 105, 115, 32, 97, 32, 108, 111, 110, 103, 101, 114, 32, 118, 97, 108, 117, 101, 32, 116, 104, 97, 116, 32, 105, 115, 32, 98, 114, 111, 107, 101, 110]⟩ : ByteArray)] from rfl) (dh.one (show Kd.M Kd.string _ _ _ (⟨#[97, 97, 97, 97, 97, 97, 97, 97, 97, 97, 97, 97, 97, 97, 97, 97, 97, 97, 97, 97, 97, 97, 97, 97, 97, 97, 97, 97, 97, 97, 97, 97, 97, 97, 97, 97, 97, 97, 97, 97, 97, 97, 97, 97, 97, 97, 97, 97, 97, 97, 97, 32, 98]⟩ : ByteArray) [.string (⟨#[97, 97, 97, 97, 97, 97, 97, 97, 97, 97, 97, 97, 97, 97, 97, 97, 97, 97, 97, 97, 97, 97, 97, 97, 97, 97, 97, 97, 97, 97, 97, 97, 97, 97, 97, 97, 97, 97, 97, 97, 97, 97, 97, 97, 97, 97, 97, 97, 97, 97, 97, 32, 98]⟩ : ByteArray)] from rfl) (dh.one (show Kd.M Kd.string _ _ _ (⟨#[116, 119, 111, 32, 32, 115, 112, 97, 99, 101, 115, 32, 115, 116, 97, 121, 32, 32, 116, 111, 103, 101, 116, 104, 101, 114, 32, 105, 110, 32, 104, 101, 114, 101, 44, 32, 97, 110, 100, 32, 115, 111, 32, 100, 111, 32, 116, 104, 101, 115, 101, 32, 32, 111, 110, 101, 115]⟩ : ByteArray) [.string (⟨#[116, 119, 111, 32, 32, 115, 112, 97, 99, 101, 115, 32, 115, 116, 97, 121, 32, 32, 116, 111, 103, 101, 116, 104, 101, 114, 32, 105, 110, 32, 104, 101, 114, 101, 44, 32, 97, 110, 100, 32, 115, 111, 32, 100, 111, 32, 116, 104, 101, 115, 101, 32, 32, 111, 110, 101, 115]⟩ : ByteArray)] from rfl) (dh.one (show Kd.M Kd.string _ _ _ (⟨#[97, 58, 98]⟩ : ByteArray) [.string (⟨#[97, 58, 98]⟩ : ByteArray)] from rfl) (dh.one (show Kd.M Kd.string _ _ _ (⟨#[111, 110, 101, 32, 116, 119, 111, 32, 116, 104, 114, 101, 101, 32, 102, 111, 117, 114, 32, 102, 105, 118, 101, 32, 115, 105, 120, 32, 115, 101, 118, 101, 110, 32, 101, 105, 103, 104, 116, 32, 110, 105, 110, 101, 32, 116, 101, 110, 32, 101, 108, 101, 118, 101, 110]⟩ : ByteArray) [.string (⟨#[111, 110, 101, 32, 116, 119, 111, 32, 116, 104, 114, 101, 101, 32, 102, 111, 117, 114, 32, 102, 105, 118, 101, 32, 115, 105, 120, 32, 115, 101, 118, 101, 110, 32, 101, 105, 103, 104, 116, 32, 110, 105, 110, 101, 32, 116, 101, 110, 32, 101, 108, 101, 118, 101, 110]⟩ : ByteArray)] from rfl) (dh.none _ _))))))))) ?_; intro aIw w9 NY hb; have Rz := ak (Kd.aC (Kd.dR NY (Kd.jh (ur Fj.out))) (dG (w := w) (g := g) (row := none) (kh HK.out))); replace Fj := ak (Kd.bH (ur Fj.out) (Kd.bZ NY) hb); replace J3 := kb J3 hb; replace HK := ak (aJ.trans (kh HK.out) (aJ.of_below hb g none) (.inl rfl)); replace HB := ak (iD oJ hb); replace HI0 := ak (aN.below oI hb); clear hb NY; obtain ⟨yc, wM, PI⟩ := Kd.aI Rz.out; subst PI) | (refine gL 58 8 Tryz.func58 #[.pointer (some ⟨g, 0, none⟩), .slice yc azT.length wM] ?_; (with_reducible refine (fH.calls w0 ?fZ ?jc (cu ((Kd.ay Rz.out).2.2)) ((Kd.ay Rz.out).2.1) (nU (aN.own_ne HI0.out Rz.out (by decide))) A3.out).mono ?_); (case fZ => exact oI); (case jc => exact oJ); rintro e w12 ⟨rfl, hi, hb, hk⟩; refine ⟨_, rfl, ?_⟩; replace J3 := kc J3 hk Us; replace Fj := ki Fj hk; replace Rz := ki Rz hk; replace HK := kt HK hk; replace HB := ak (hb); replace HI0 := ak (hi); clear hb; (try clear hk); (try clear hi); have ail := Us.out; have ain := ahl.out; have z14 := zC J3.out))
 refine bodyPost_ret (results_cell_row rfl _ _ avh 69 #[.string azS, .string azU] (0, 0) _ rfl bq Tryz.underlying69 rfl (by kernel_rfl)) rfl ?_
 exact ⟨er, oI, oJ, kh HK.out⟩
def lH.l0 : Nat → List (gX) → Int → List Int → Int → Option ((List (gX)) × Int)
 | 0, _, _, _, _ => none
 | k + 1, x3, x4, x1000, oC => if x4 > 0 then ((uQ.f k x1000 oC).bind fun aeL => (if x3.length < 4398046511104 then (lH.l0 k (x3 ++ [(⟨aeL.1, aeL.2.1⟩ : gX)]) (wrap64 (x4 - 1)) x1000 aeL.2.2) else (none))) else (some (x3, oC))
def lH.f (k : Nat) (fB : List Int) (ku : Int) : Option ((List (gX)) × Int) := (jY.f k fB ku (([2, 3, 1, 0, 4] : List Int))).bind fun Nu => (lH.l0 k (([] : List (gX))) Nu.1 fB Nu.2)
theorem lH.calls {k g : Nat} {fB : List Int} {ku r2 : Int} {r1 : List (gX)} {w : World} (w0 : World) (hI : aN w0 w g fB ku) (hB : Below w0.heap.size w0 w) (h : lH.f k fB ku = some (r1, r2)) :
  Calls Tryz.prog 144 #[.pointer (some ⟨g, 0, none⟩)] w fun e w' => ∃ oV : Value, e = .returned (oV) ∧ Kd.R qI 69 w' w.heap.size (fun _ => True) oV r1 ∧ aN w0 w' g fB r2 ∧ Below w0.heap.size w0 w' ∧ aJ w w' g none := by
 have HI0 := ak hI
 have HK := ak (aJ.refl w g none)
 have HL := ak hB.size
 clear hI
 have HW0 := ak hB.size
 have HB := ak hB
 clear hB
 unfold lH.f at h; have H := h
 clear h
 obtain ⟨aIx, akG⟩ := nm ([] : List (gX))
 rw [← akG.out] at H
 obtain ⟨azV, akH⟩ := nm ([2, 3, 1, 0, 4] : List Int)
 rw [← akH.out] at H
 replace H := bd H
 obtain ⟨⟨aIy, aIz⟩, A2, H⟩ := H
 (try dsimp only at H)
 have H' := ak H; clear H
 go_enter Tryz.func144, Tryz.ntmps144
 go_wp2_with (first | (refine Gu 5 qI 69 akG ?_; intro aIA w3 Ro hb; have Wj := ak (Kd.aC Ro (dG (w := w) (g := g) (row := none) (kh HK.out))); replace HK := ak (aJ.trans (kh HK.out) (aJ.of_below hb g none) (.inl rfl)); replace HB := ak (iD oJ hb); replace HI0 := ak (aN.below oI hb); clear hb Ro) | (refine QD 7 (Kd.int .i64) 3 [.int .i64 2, .int .i64 3, .int .i64 1, .int .i64 0, .int .i64 4] akH (dh.one (show Kd.M (Kd.int .i64) _ _ _ 2 [.int .i64 2] from rfl) (dh.one (show Kd.M (Kd.int .i64) _ _ _ 3 [.int .i64 3] from rfl) (dh.one (show Kd.M (Kd.int .i64) _ _ _ 1 [.int .i64 1] from rfl) (dh.one (show Kd.M (Kd.int .i64) _ _ _ 0 [.int .i64 0] from rfl) (dh.one (show Kd.M (Kd.int .i64) _ _ _ 4 [.int .i64 4] from rfl) (dh.none _ _)))))) ?_; intro aIB w5 Y8 hb; have RD := ak (Kd.aC Y8 (dG (w := w) (g := g) (row := none) (kh HK.out))); replace Wj := rb Wj hb; replace HK := ak (aJ.trans (kh HK.out) (aJ.of_below hb g none) (.inl rfl)); replace HB := ak (iD oJ hb); replace HI0 := ak (aN.below oI hb); clear hb Y8; obtain ⟨Ao7, co7, eo7⟩ := Kd.aI RD.out; subst eo7) | (refine gL 97 8 Tryz.func97 #[.pointer (some ⟨g, 0, none⟩), .slice Ao7 azV.length co7] ?_; (with_reducible refine (jY.calls w0 ?fZ ?jc (cu ((Kd.ay RD.out).2.2)) ((Kd.ay RD.out).2.1) (nU (aN.own_ne HI0.out RD.out (by decide))) A2.out).mono ?_); (case fZ => exact oI); (case jc => exact oJ); rintro e w8 ⟨rfl, hi, hb, hk⟩; refine ⟨_, rfl, ?_⟩; replace Wj := ki Wj hk; replace RD := ki RD hk; replace HK := kt HK hk; replace HB := ak (hb); replace HI0 := ak (hi); clear hb; (try clear hk); (try clear hi)))
 go_loopg [3, 4] k (fun kq v3 v4 w' => ∃ (dW : List (gX)) (eP : Int) (xA : Int), v4 = .int .i64 eP ∧ ah (lH.l0 kq dW eP fB xA = some (r1, r2)) ∧ ah (kq ≤ k) ∧ ah (Kd.R qI 69 w' w.heap.size (fun _ => True) v3 dW) ∧ ah (aN w0 w' g fB xA) ∧ ah (aJ w w' g none) ∧ ah (Below w0.heap.size w0 w'))
 case atStart => exact ⟨_, _, _, rs, H', ⟨Nat.le_refl _⟩, ⟨ur Wj.out⟩, ⟨oI⟩, ⟨kh HK.out⟩, ⟨oJ⟩⟩
 case round =>
  clear H'
  obtain ⟨dW, eP, xA, rfl, HA, xI, oH, HI0, HK, HB⟩ := hrel
  cases gk with
  | zero => exact zz HA.out
  | succ k1 =>
   obtain ⟨H⟩ := HA
   simp only [lH.l0] at H
   replace H := sp H
   rcases H with ⟨c9, H⟩ | ⟨c9, H⟩
   ·
    have xY : decide (0 < eP) = true := decide_eq_true c9
    clear c9
    replace H := bd H
    obtain ⟨⟨ahm, ahn, aIC⟩, WV, H⟩ := H
    (try dsimp only at H)
    replace H := nl H; obtain ⟨Ph, H⟩ := H
    obtain ⟨aID, akI⟩ := nm (dW ++ [(⟨ahm, ahn⟩ : gX)])
    rw [← akI.out] at H
    have H' := ak H; clear H
    go_wp2_with (first | (refine gL 168 15 Tryz.func168 #[.pointer (some ⟨g, 0, none⟩)] ?_; (with_reducible refine (uQ.calls w0 ?fZ ?jc WV.out).mono ?_); (case fZ => exact oI); (case jc => exact oJ); rintro e w12 ⟨rfl, hi, hb, hk⟩; refine ⟨_, rfl, ?_⟩; replace oH := ki oH hk; replace HK := kt HK hk; replace HB := ak (hb); replace HI0 := ak (hi); clear hb; (try clear hk); (try clear hi)) | ((with_reducible refine eu (b := .append) (xs := #[.tmp 13, .tmp 16]) rfl ?_); at_builtin; refine Kd.pV qI w.heap.size rfl (.tmp 13) (.tmp 16) 25 69 (.agg #[(.string ⟨#[]⟩), (.string ⟨#[]⟩)]) 32 rfl Tryz.underlying25 Cc rfl (by decide) (by omega) u3 dW (⟨ahm, ahn⟩ : gX) [.string ahm, .string ahn] (fun _ => True) (fun _ => False) rfl rfl ?aP (fun _ hk => hk.elim) ?aF ?aO (Below.refl _ _) ?aS ?aL ?_; (case aP => exact vW _ _ _ (⟨ahm, ahn⟩ : gX)); (case aF => exact (fun _ _ => trivial)); (case aO => exact (ur oH.out)); (case aS => exact (dG (w := w) (g := g) (row := none) (kh HK.out))); (case aL => have := Ph.out; omega); intro aIE w13 ho hb hg hat; rw [← akI.out] at ho; have avi := ak (ho); replace HB := ak (uZ oJ HL.out hb); replace HI0 := ak (aN.grown oI hg (aN.own_ne HI0.out oH.out (by decide))); replace HK := ak (aJ.trans (kh HK.out) (aJ.yS hg g) (Kd.F5 oH.out)); clear ho hb hg hat oH))
    go_roundg k1
    case measure => exact kl
    case rel => exact ⟨_, _, _, rs, H', ⟨kl⟩, ⟨ur avi.out⟩, ⟨oI⟩, ⟨kh HK.out⟩, ⟨oJ⟩⟩
   ·
    have xY : decide (0 < eP) = false := decide_eq_false c9
    clear c9
    obtain ⟨rfl, rfl⟩ := s2 H
    go_wp2
    go_ret
    exact ⟨_, er, ur oH.out, oI, oJ, kh HK.out⟩
end Go.Proofs.YtncdadcmghglkaaGreatDoor.PFnPartLines
