/- Printed walks; conditions: those in each statement. -/
import Derived.Test.YtncdadcmghglkaaGreatDoorVFnPartValidQt
import Derived.Test.YtncdadcmghglkaaGreatDoorVFnPartValidYt
import Derived.Test.YtncdadcmghglkaaGreatDoorPFnPartValidx0
import Derived.Test.YtncdadcmghglkaaGreatDoorPFnPartValidx20
import Derived.Test.YtncdadcmghglkaaGreatDoorPFnPartValidx23
-- short
-- dense
-- sq
-- sq2
namespace Go.Proofs.YtncdadcmghglkaaGreatDoor.PFnPartValid
open Go.RowKit Go.Proofs.YtncdadcmghglkaaGreatDoor.X Go.Proofs.YtncdadcmghglkaaGreatDoorW.bK Go.Proofs.YtncdadcmghglkaaGreatDoorW.gY Go.Proofs.YtncdadcmghglkaaGreatDoorW.iU
attribute [local go_sem] lu lC ng ni jO jP lD lF   -- for this text's walks alone
set_option linter.unusedVariables false
set_option maxHeartbeats 8000000
set_option maxRecDepth 100000
set_option linter.unusedSimpArgs false
def gQ.f (k : Nat) (a0 : ByteArray) (a1 : ByteArray) : Option ((List (gK)) × List ByteArray × (List (mV)) × Bool) := (bT.f k a0).bind fun aff => ((mJ.f k a1).bind fun XQ => ((kC.f k a1 XQ.1).bind fun afg => (if aff.2 = true then (if XQ.2 = true then (if afg.2 = true then ((jv.f k (⟨#[83, 117, 98, 106, 101, 99, 116]⟩ : ByteArray) aff.1).bind fun auj => (if auj = true then ((iR.f k afg.1).bind fun auk => (if auk = true then ((some (([(⟨#[55, 98, 105, 116]⟩ : ByteArray), (⟨#[113, 117, 111, 116, 101, 100, 45, 112, 114, 105, 110, 116, 97, 98, 108, 101]⟩ : ByteArray), (⟨#[98, 97, 115, 101, 54, 52]⟩ : ByteArray)] : List ByteArray) : List ByteArray)).bind fun Bd => (if 0 ≤ XQ.1 then (if XQ.1 < (Bd.length : Int) then (some ((([(⟨(⟨#[83, 117, 98, 106, 101, 99, 116]⟩ : ByteArray), aff.1⟩ : gK), (⟨(⟨#[67, 111, 110, 116, 101, 110, 116, 45, 84, 121, 112, 101]⟩ : ByteArray), (⟨#[116, 101, 120, 116, 47, 112, 108, 97, 105, 110, 59, 32, 99, 104, 97, 114, 115, 101, 116, 61, 117, 116, 102, 45, 56]⟩ : ByteArray)⟩ : gK), (⟨(⟨#[67, 111, 110, 116, 101, 110, 116, 45, 84, 114, 97, 110, 115, 102, 101, 114, 45, 69, 110, 99, 111, 100, 105, 110, 103]⟩ : ByteArray), qg ByteArray.empty Bd XQ.1⟩ : gK)] : List (gK))), afg.1, ([] : List (mV)), true)) else (none)) else (none))) else (some (([] : List (gK)), ([] : List ByteArray), ([] : List (mV)), false)))) else (some (([] : List (gK)), ([] : List ByteArray), ([] : List (mV)), false)))) else (some (([] : List (gK)), ([] : List ByteArray), ([] : List (mV)), false))) else (some (([] : List (gK)), ([] : List ByteArray), ([] : List (mV)), false))) else (some (([] : List (gK)), ([] : List ByteArray), ([] : List (mV)), false)))))
def gQ.T8 : Bool × List (List Nat × List Nat) := (true, [([], []), ([], []), ([], []), ([], []), ([2, 3], [2, 3]), ([4], [4]), ([5], [5]), ([0, 1, 6], [0, 1, 6]), ([7], [7]), ([], []), ([9, 8, 0, 1, 2, 3, 4, 5, 6, 7, 8, 9], [8, 9])])
def gQ.B8 : List Nat := [0, 0, 0, 0, 12, 28, 60, 127, 255, 0, 1023]
theorem gQ.ada : uG .any (opsOf Tryz.f167 8) = gQ.T8 := by kernel_rfl
theorem gQ.TT : oH gQ.T8.2 gQ.B8 = true := by kernel_rfl
theorem gQ.calls {k : Nat} {a0 a1 : ByteArray} {r1 : List (gK)} {r2 : List ByteArray} {r3 : List (mV)} {r4 : Bool} {w : World} (h : gQ.f k a0 a1 = some (r1, r2, r3, r4)) :
  Calls Tryz.prog 167 #[.string a0, .string a1] w fun e w' => ∃ rY F7 Iw : Value, e = .returned (.tuple #[.agg #[rY, F7, Iw], .bool r4]) ∧ Kd.R pU 69 w' w.heap.size (fun _ => True) rY r1 ∧ Kd.R Kd.string 9 w' w.heap.size (fun _ => True) F7 r2 ∧ Kd.R k28 28 w' w.heap.size (fun k_ => some k_ ≠ (rY : Value).ownBlock ∧ some k_ ≠ (F7 : Value).ownBlock) Iw r3 ∧ Below w.heap.size w w' := by
 have Et := Tryz.underlying28
 have DK := Tryz.underlying69
 have HB := ak (Below.refl w.heap.size w)
 unfold gQ.f at h; have H := h
 clear h
 replace H := bd H
 obtain ⟨⟨xP, aHm⟩, A3, H⟩ := H
 (try dsimp only at H)
 replace H := bd H
 obtain ⟨⟨DZ, aHn⟩, A4, H⟩ := H
 (try dsimp only at H)
 replace H := bd H
 obtain ⟨⟨KQ, aHo⟩, A5, H⟩ := H
 (try dsimp only at H)
 replace H := sb H
 rcases H with ⟨rfl, H⟩ | ⟨rfl, H⟩
 ·
  replace H := sb H
  rcases H with ⟨rfl, H⟩ | ⟨rfl, H⟩
  ·
   replace H := sb H
   rcases H with ⟨rfl, H⟩ | ⟨rfl, H⟩
   ·
    replace H := bd H; obtain ⟨auj, A9, H⟩ := H; replace H := sb H
    rcases H with ⟨rfl, H⟩ | ⟨rfl, H⟩
    ·
     replace H := bd H; obtain ⟨auk, W9, H⟩ := H; replace H := sb H
     rcases H with ⟨rfl, H⟩ | ⟨rfl, H⟩
     ·
      replace H := ny H
      obtain ⟨Bd, aul, H⟩ := H
      replace H := oN H; obtain ⟨xk, H⟩ := H; replace H := oN H; obtain ⟨rQ, H⟩ := H
      obtain ⟨PK, XR⟩ := nm ([(⟨(⟨#[83, 117, 98, 106, 101, 99, 116]⟩ : ByteArray), xP⟩ : gK), (⟨(⟨#[67, 111, 110, 116, 101, 110, 116, 45, 84, 121, 112, 101]⟩ : ByteArray), (⟨#[116, 101, 120, 116, 47, 112, 108, 97, 105, 110, 59, 32, 99, 104, 97, 114, 115, 101, 116, 61, 117, 116, 102, 45, 56]⟩ : ByteArray)⟩ : gK), (⟨(⟨#[67, 111, 110, 116, 101, 110, 116, 45, 84, 114, 97, 110, 115, 102, 101, 114, 45, 69, 110, 99, 111, 100, 105, 110, 103]⟩ : ByteArray), qg ByteArray.empty Bd DZ⟩ : gK)] : List (gK))
      rw [← XR.out] at H
      obtain ⟨rfl, rfl, rfl, rfl⟩ := s4 H
      go_enter Tryz.func167, Tryz.ntmps167
      try go_wp2_with (first | (refine bX HB 4 #[.slice none 0 0, .slice none 0 0, .slice none 0 0] 28 ?_; intro xu w15 eU XT hb; replace HB := bs HB hb; clear hb) | (refine gB Tryz.func194 (bT.calls A3.out) ?_; intro w16 hb; replace eU := kb eU hb; replace HB := bz HB hb; clear hb) | (refine gB Tryz.func195 (mJ.calls A4.out) ?_; intro w17 hb; replace eU := kb eU hb; replace HB := bz HB hb; clear hb) | (refine gV Tryz.func196 (kC.calls A5.out) ?_; rintro afh w18 ⟨ho0, hb⟩; have lH := ak (Kd.aG ho0 (aj bb)); replace eU := kb eU hb; replace HB := bz HB hb; clear hb; (try clear ho0)) | (refine bY HB 12 #[.string (⟨#[]⟩ : ByteArray), .string (⟨#[]⟩ : ByteArray)] 69 ?_; intro oU YM kQ XU hg hb; have kX := Au eU hg; have uK := Aw eU hg; replace lH := rb lH hb; replace eU := kb eU hb; replace HB := bz HB hb; clear hb hg; have ap2 := uK.out; have ap3 := kX.out; have z21 := AX kQ.out) | (go_at_call 158; refine mB (jv.calls A9.out) ?_; intro Y8 hb; replace lH := rg lH hb; replace eU := kp eU #[.slice none 0 0, .slice none 0 0, .slice none 0 0] hb; replace kQ := kp kQ #[.string (⟨#[83, 117, 98, 106, 101, 99, 116]⟩ : ByteArray), .string xP] hb; replace HB := bz HB hb; clear hb; obtain ⟨QT, Pz, anz⟩ := Kd.aX lH.out; subst anz) | (go_at_call 114; refine mA (iR.calls (cu ((Kd.au lH.out).2.2)) ((Kd.au lH.out).2.1) W9.out) ?_; intro nd; (try (rw [Q_ Y8]; generalize hq_ : World.drewN Y8 _ = Y8; have xK : ah (Kd.R Kd.string 9 Y8 w.heap.size (fun _ => True) (.slice QT KQ.length Pz) KQ) := ⟨by rw [← hq_]; exact (ur lH.out)⟩; have xM : ah (Y8.heap[xu]? = some (.cells #[.slice none 0 0, .slice none 0 0, .slice none 0 0] 28 (0, 0))) := ⟨by rw [← hq_]; exact (ub eU.out)⟩; have yC : ah (Y8.heap[oU]? = some (.cells #[.string (⟨#[83, 117, 98, 106, 101, 99, 116]⟩ : ByteArray), .string xP] 69 (0, 0))) := ⟨by rw [← hq_]; exact (ub kQ.out)⟩; have Ad : ah (Below w.heap.size w Y8) := ⟨by rw [← hq_]; exact bb⟩; clear lH eU kQ HB hq_; have lH := xK; have eU := xM; have kQ := yC; have HB := Ad; clear xK xM yC Ad))) | (refine SX 54 Kd.string 9 [.string (⟨#[55, 98, 105, 116]⟩ : ByteArray), .string (⟨#[113, 117, 111, 116, 101, 100, 45, 112, 114, 105, 110, 116, 97, 98, 108, 101]⟩ : ByteArray), .string (⟨#[98, 97, 115, 101, 54, 52]⟩ : ByteArray)] aul (dK.one (show Kd.M Kd.string _ _ _ (⟨#[55, 98, 105, 116]⟩ : ByteArray) [.string (⟨#[55, 98, 105, 116]⟩ : ByteArray)] from rfl) (dK.one (show Kd.M Kd.string _ _ _ (⟨#[113, 117, 111, 116, 101, 100, 45, 112, 114, 105, 110, 116, 97, 98, 108, 101]⟩ : ByteArray) [.string (⟨#[113, 117, 111, 116, 101, 100, 45, 112, 114, 105, 110, 116, 97, 98, 108, 101]⟩ : ByteArray)] from rfl) (dK.one (show Kd.M Kd.string _ _ _ (⟨#[98, 97, 115, 101, 54, 52]⟩ : ByteArray) [.string (⟨#[98, 97, 115, 101, 54, 52]⟩ : ByteArray)] from rfl) (dK.none _ _)))) ?_; intro aHp w24 Rf hb; have tY := ak (Kd.aG (Kd.fK Rf (Kd.jH (ur lH.out))) (aj bb)); replace lH := ak (Kd.fA (ur lH.out) (Kd.eH Rf) hb); replace eU := kb eU hb; replace kQ := ak (mQ (g := oU) (o := .cells #[.string (⟨#[83, 117, 98, 106, 101, 99, 116]⟩ : ByteArray), .string xP] 69 (0, 0)) (ub kQ.out) hb); replace HB := bz HB hb; clear hb Rf))
      replace lH := ak (Kd.jX lH.out)
      replace tY := ak (Kd.jX tY.out)
      replace eU := ak (bH eU.out)
      replace kQ := ak (bH kQ.out)
      replace HB := ak (iy HB.out)
      obtain ⟨aHq, aiE, aum⟩ := Kd.aX tY.out
      (first | subst aum | (injection aum with sQ yO sS; have yP := sQ.symm; have yQ := sS.symm; clear sQ yO sS; subst yP; subst yQ))
      have aou := zi DZ
      have aov := zj DZ Bd.length
      obtain ⟨Rh, azU, abT⟩ := Kd.jI (Kd.au tY.out).2.2 DZ aou aov
      cases azU
      replace aou := eq_true aou
      replace aov := eq_true aov
      refine DL (n := 11) (S := fun w' => w'.cell? ⟨oU, 0, none⟩ = some (.string (⟨#[83, 117, 98, 106, 101, 99, 116]⟩ : ByteArray)) ∧ w'.cell? ⟨oU, 1, none⟩ = some (.string xP) ∧ w'.cell? (Rh.add (DZ).toNat) = some (.string (qg ByteArray.empty Bd DZ))) (ds := []) #[false, false, false, false, false, false, false, false, false, false, false] (by kernel_rfl) rfl rfl ⟨(aA kQ.out 0).trans rfl, (aA kQ.out 1).trans rfl, abT⟩ (fun hHeld => ?_); refine vF gQ.ada gQ.TT (fun vk Za => ?_)
      generalize w24.drew = w26 at lH tY eU kQ HB abT hHeld ⊢
      refine pl 1 ?_
      refine pl 2 ?_
      refine pl 3 ?_
      refine pl 4 ?_
      refine tk 0 ?_
      refine tk 5 ?_
      refine pl 6 ?_
      refine afi (σ := Value × Nat) 1 #[true, true, true, true, true, true, true, true, true, true, false] (fun s_ => [(62, s_.1), (14, .pointer (some ⟨s_.2, 0, none⟩)), (63, .agg #[s_.1, .slice none 0 0, .slice none 0 0])]) (fun s_ w' => (w'.cell? ⟨oU, 0, none⟩ = some (.string (⟨#[83, 117, 98, 106, 101, 99, 116]⟩ : ByteArray)) ∧ w'.cell? ⟨oU, 1, none⟩ = some (.string xP) ∧ w'.cell? (Rh.add (DZ).toNat) = some (.string (qg ByteArray.empty Bd DZ))) ∧ (Kd.R Kd.string 9 w' w.heap.size (fun k_ => some k_ ≠ (.slice (some Rh) Bd.length aiE : Value).ownBlock) (.slice QT KQ.length Pz) KQ) ∧ (Kd.R Kd.string 9 w' w.heap.size (fun k_ => some k_ ≠ (.slice QT KQ.length Pz : Value).ownBlock) (.slice (some Rh) Bd.length aiE) Bd) ∧ (Kd.R pU 69 w' w.heap.size (fun k_ => k_ ≠ oU) s_.1 PK) ∧ (w'.heap[xu]? = some (.cells #[.slice none 0 0, .slice none 0 0, .slice none 0 0] 28 (0, 0))) ∧ (w'.heap[oU]? = some (.cells #[.string (⟨#[83, 117, 98, 106, 101, 99, 116]⟩ : ByteArray), .string xP] 69 (0, 0))) ∧ (w'.heap[s_.2]? = some (.cells #[.slice none 0 0, .slice none 0 0, .slice none 0 0] 28 (0, 0))) ∧ (w.heap.size ≤ s_.2) ∧ (w.heap.size ≤ s_.2) ∧ (xu ≠ s_.2) ∧ (s_.2 ≠ xu) ∧ (oU ≠ s_.2) ∧ (s_.2 ≠ oU) ∧ (Below w.heap.size w w')) ?_ ?_
      rotate_left
      ·
       intro TV
       refine aiF (i := 7) (j := 9) (Ni := some 62) (Nj := some 14) #[true, true, true, true, true, true, true, true, false, false, false] #[true, true, true, true, true, true, true, false, false, true, false] rfl rfl rfl rfl (VK vk.out (by kernel_rfl)) (by decide) (by decide) (fun K hK => ?_) (fun K hK => ?_)
       ·
        skip
        refine Kd.sD pU _ 69 ?hg (N := 62) ?hd (xs := ([(⟨(⟨#[83, 117, 98, 106, 101, 99, 116]⟩ : ByteArray), xP⟩ : gK), (⟨(⟨#[67, 111, 110, 116, 101, 110, 116, 45, 84, 121, 112, 101]⟩ : ByteArray), (⟨#[116, 101, 120, 116, 47, 112, 108, 97, 105, 110, 59, 32, 99, 104, 97, 114, 115, 101, 116, 61, 117, 116, 102, 45, 56]⟩ : ByteArray)⟩ : gK), (⟨(⟨#[67, 111, 110, 116, 101, 110, 116, 45, 84, 114, 97, 110, 115, 102, 101, 114, 45, 69, 110, 99, 111, 100, 105, 110, 103]⟩ : ByteArray), qg ByteArray.empty Bd DZ⟩ : gK)] : List (gK))) (inner := [.string (⟨#[83, 117, 98, 106, 101, 99, 116]⟩ : ByteArray), .string xP, .string (⟨#[67, 111, 110, 116, 101, 110, 116, 45, 84, 121, 112, 101]⟩ : ByteArray), .string (⟨#[116, 101, 120, 116, 47, 112, 108, 97, 105, 110, 59, 32, 99, 104, 97, 114, 115, 101, 116, 61, 117, 116, 102, 45, 56]⟩ : ByteArray), .string (⟨#[67, 111, 110, 116, 101, 110, 116, 45, 84, 114, 97, 110, 115, 102, 101, 114, 45, 69, 110, 99, 111, 100, 105, 110, 103]⟩ : ByteArray), .string (qg ByteArray.empty Bd DZ)]) (ok := fun _ => True) (xC := fun _ => True) ?hr ?hp (fun _ hk => hk) trivial (Below.refl _ _) (Nat.le_refl _) (by simp) ?_; (case hd => rfl); (case hg => rfl); (case hr => first | (go_simp; done) | (go_simp; rfl)); (case hp => exact (dK.c2 (show Kd.M pU _ _ _ (⟨(⟨#[83, 117, 98, 106, 101, 99, 116]⟩ : ByteArray), xP⟩ : gK) [.string (⟨#[83, 117, 98, 106, 101, 99, 116]⟩ : ByteArray), .string xP] from (uU _ _ _ (⟨(⟨#[83, 117, 98, 106, 101, 99, 116]⟩ : ByteArray), xP⟩ : gK) )) (dK.c2 (show Kd.M pU _ _ _ (⟨(⟨#[67, 111, 110, 116, 101, 110, 116, 45, 84, 121, 112, 101]⟩ : ByteArray), (⟨#[116, 101, 120, 116, 47, 112, 108, 97, 105, 110, 59, 32, 99, 104, 97, 114, 115, 101, 116, 61, 117, 116, 102, 45, 56]⟩ : ByteArray)⟩ : gK) [.string (⟨#[67, 111, 110, 116, 101, 110, 116, 45, 84, 121, 112, 101]⟩ : ByteArray), .string (⟨#[116, 101, 120, 116, 47, 112, 108, 97, 105, 110, 59, 32, 99, 104, 97, 114, 115, 101, 116, 61, 117, 116, 102, 45, 56]⟩ : ByteArray)] from (uU _ _ _ (⟨(⟨#[67, 111, 110, 116, 101, 110, 116, 45, 84, 121, 112, 101]⟩ : ByteArray), (⟨#[116, 101, 120, 116, 47, 112, 108, 97, 105, 110, 59, 32, 99, 104, 97, 114, 115, 101, 116, 61, 117, 116, 102, 45, 56]⟩ : ByteArray)⟩ : gK) )) (dK.c2 (show Kd.M pU _ _ _ (⟨(⟨#[67, 111, 110, 116, 101, 110, 116, 45, 84, 114, 97, 110, 115, 102, 101, 114, 45, 69, 110, 99, 111, 100, 105, 110, 103]⟩ : ByteArray), qg ByteArray.empty Bd DZ⟩ : gK) [.string (⟨#[67, 111, 110, 116, 101, 110, 116, 45, 84, 114, 97, 110, 115, 102, 101, 114, 45, 69, 110, 99, 111, 100, 105, 110, 103]⟩ : ByteArray), .string (qg ByteArray.empty Bd DZ)] from (uU _ _ _ (⟨(⟨#[67, 111, 110, 116, 101, 110, 116, 45, 84, 114, 97, 110, 115, 102, 101, 114, 45, 69, 110, 99, 111, 100, 105, 110, 103]⟩ : ByteArray), qg ByteArray.empty Bd DZ⟩ : gK) )) (dK.none _ _)))))
        intro aow w28 afj hb CX xJ
        have Zy := (hb.cell (World.block_lt_of_cell? _ _ (hHeld.2.2))).trans (hHeld.2.2)
        clear CX xJ
        (first | rw [← XR.out] at afj | (simp only [Int.reduceToNat] at afj; rw [← XR.out] at afj))
        have KT := ak (Kd.aG (Kd.oI afj (g := oU) (o := .cells #[.string (⟨#[83, 117, 98, 106, 101, 99, 116]⟩ : ByteArray), .string xP] 69 (0, 0)) (ub kQ.out)) (aj bb))
        replace lH := rb lH hb
        replace tY := rb tY hb
        replace eU := kb eU hb
        replace kQ := ak (mQ (g := oU) (o := .cells #[.string (⟨#[83, 117, 98, 106, 101, 99, 116]⟩ : ByteArray), .string xP] 69 (0, 0)) (ub kQ.out) hb)
        replace HB := bz HB hb
        clear hb afj
        obtain ⟨aun, auo, aiG⟩ := Kd.aX KT.out
        (first | subst aiG | (injection aiG with sQ yO sS; have yP := sQ.symm; have yQ := sS.symm; clear sQ yO sS; subst yP; subst yQ))
        refine hK.out _ _ ⟨(aA kQ.out 0).trans rfl, (aA kQ.out 1).trans rfl, Zy⟩ (fun hHeld => ?_)
        clear hK K
        refine nrm ?_
        refine pl 8 ?_
        refine o1 9 (fun K hK => ?_)
        refine Ri ?hg (N := 14) ?hd (cs := #[.slice none 0 0, .slice none 0 0, .slice none 0 0]) (t := 28) ?hr ?_; (case hd => rfl); (case hg => rfl); (case hr => first | (go_simp; done) | (go_simp; rfl))
        intro sF hg w31 hbox hb
        have Zy := (hb.cell (World.block_lt_of_cell? _ _ (hHeld.2.2))).trans (hHeld.2.2)
        have uS := ak (hbox)
        have abU := ak ((by rw [hg]; exact (aj bb) : w.heap.size ≤ sF))
        have abV := ak ((by rw [hg]; exact (aj bb) : w.heap.size ≤ sF))
        have tq := Au eU hg
        have yF := Aw eU hg
        have qM := ak ((by rw [hg]; exact Nat.ne_of_lt (vM (g := oU) (o := .cells #[.string (⟨#[83, 117, 98, 106, 101, 99, 116]⟩ : ByteArray), .string xP] 69 (0, 0)) (ub kQ.out)) : oU ≠ sF))
        have yG := ak ((by rw [hg]; exact Nat.ne_of_gt (vM (g := oU) (o := .cells #[.string (⟨#[83, 117, 98, 106, 101, 99, 116]⟩ : ByteArray), .string xP] 69 (0, 0)) (ub kQ.out)) : sF ≠ oU))
        replace lH := rb lH hb
        replace tY := rb tY hb
        replace KT := rb KT hb
        replace eU := kb eU hb
        replace kQ := ak (mQ (g := oU) (o := .cells #[.string (⟨#[83, 117, 98, 106, 101, 99, 116]⟩ : ByteArray), .string xP] 69 (0, 0)) (ub kQ.out) hb)
        replace HB := bz HB hb
        clear hb hbox hg
        refine hK.out _ _ ⟨(aA kQ.out 0).trans rfl, (aA kQ.out 1).trans rfl, Zy⟩ (fun hHeld => ?_)
        clear hK K
        refine nrm ?_
        exact rW (by simp only [zH, Act.put, sK, sN, l_c] <;> rfl) (TV (.slice aun PK.length auo, sF) _ ⟨hHeld, (ur (Kd.aY lH.out (fun _ hk => hk.2))), (ur (Kd.aY tY.out (fun _ hk => hk.2))), (ur (Kd.aY KT.out (fun _ hk => hk.2))), (ub eU.out), (ub kQ.out), (ub uS.out), abU.out, abV.out, tq.out, yF.out, qM.out, yG.out, bb⟩)
       ·
        skip
        refine Ri ?hg (N := 14) ?hd (cs := #[.slice none 0 0, .slice none 0 0, .slice none 0 0]) (t := 28) ?hr ?_; (case hd => rfl); (case hg => rfl); (case hr => first | (go_simp; done) | (go_simp; rfl))
        intro sF hg w28 hbox hb
        have Zy := (hb.cell (World.block_lt_of_cell? _ _ (hHeld.2.2))).trans (hHeld.2.2)
        have uS := ak (hbox)
        have abU := ak ((by rw [hg]; exact (aj bb) : w.heap.size ≤ sF))
        have abV := ak ((by rw [hg]; exact (aj bb) : w.heap.size ≤ sF))
        have tq := Au eU hg
        have yF := Aw eU hg
        have qM := ak ((by rw [hg]; exact Nat.ne_of_lt (vM (g := oU) (o := .cells #[.string (⟨#[83, 117, 98, 106, 101, 99, 116]⟩ : ByteArray), .string xP] 69 (0, 0)) (ub kQ.out)) : oU ≠ sF))
        have yG := ak ((by rw [hg]; exact Nat.ne_of_gt (vM (g := oU) (o := .cells #[.string (⟨#[83, 117, 98, 106, 101, 99, 116]⟩ : ByteArray), .string xP] 69 (0, 0)) (ub kQ.out)) : sF ≠ oU))
        replace lH := rb lH hb
        replace tY := rb tY hb
        replace eU := kb eU hb
        replace kQ := ak (mQ (g := oU) (o := .cells #[.string (⟨#[83, 117, 98, 106, 101, 99, 116]⟩ : ByteArray), .string xP] 69 (0, 0)) (ub kQ.out) hb)
        replace HB := bz HB hb
        clear hb hbox hg
        refine hK.out _ _ ⟨(aA kQ.out 0).trans rfl, (aA kQ.out 1).trans rfl, Zy⟩ (fun hHeld => ?_)
        clear hK K
        refine nrm ?_
        refine o1 7 (fun K hK => ?_)
        refine Kd.sD pU _ 69 ?hg (N := 62) ?hd (xs := ([(⟨(⟨#[83, 117, 98, 106, 101, 99, 116]⟩ : ByteArray), xP⟩ : gK), (⟨(⟨#[67, 111, 110, 116, 101, 110, 116, 45, 84, 121, 112, 101]⟩ : ByteArray), (⟨#[116, 101, 120, 116, 47, 112, 108, 97, 105, 110, 59, 32, 99, 104, 97, 114, 115, 101, 116, 61, 117, 116, 102, 45, 56]⟩ : ByteArray)⟩ : gK), (⟨(⟨#[67, 111, 110, 116, 101, 110, 116, 45, 84, 114, 97, 110, 115, 102, 101, 114, 45, 69, 110, 99, 111, 100, 105, 110, 103]⟩ : ByteArray), qg ByteArray.empty Bd DZ⟩ : gK)] : List (gK))) (inner := [.string (⟨#[83, 117, 98, 106, 101, 99, 116]⟩ : ByteArray), .string xP, .string (⟨#[67, 111, 110, 116, 101, 110, 116, 45, 84, 121, 112, 101]⟩ : ByteArray), .string (⟨#[116, 101, 120, 116, 47, 112, 108, 97, 105, 110, 59, 32, 99, 104, 97, 114, 115, 101, 116, 61, 117, 116, 102, 45, 56]⟩ : ByteArray), .string (⟨#[67, 111, 110, 116, 101, 110, 116, 45, 84, 114, 97, 110, 115, 102, 101, 114, 45, 69, 110, 99, 111, 100, 105, 110, 103]⟩ : ByteArray), .string (qg ByteArray.empty Bd DZ)]) (ok := fun _ => True) (xC := fun _ => True) ?hr ?hp (fun _ hk => hk) trivial (Below.refl _ _) (Nat.le_refl _) (by simp) ?_; (case hd => rfl); (case hg => rfl); (case hr => first | (go_simp; done) | (go_simp; rfl)); (case hp => exact (dK.c2 (show Kd.M pU _ _ _ (⟨(⟨#[83, 117, 98, 106, 101, 99, 116]⟩ : ByteArray), xP⟩ : gK) [.string (⟨#[83, 117, 98, 106, 101, 99, 116]⟩ : ByteArray), .string xP] from (uU _ _ _ (⟨(⟨#[83, 117, 98, 106, 101, 99, 116]⟩ : ByteArray), xP⟩ : gK) )) (dK.c2 (show Kd.M pU _ _ _ (⟨(⟨#[67, 111, 110, 116, 101, 110, 116, 45, 84, 121, 112, 101]⟩ : ByteArray), (⟨#[116, 101, 120, 116, 47, 112, 108, 97, 105, 110, 59, 32, 99, 104, 97, 114, 115, 101, 116, 61, 117, 116, 102, 45, 56]⟩ : ByteArray)⟩ : gK) [.string (⟨#[67, 111, 110, 116, 101, 110, 116, 45, 84, 121, 112, 101]⟩ : ByteArray), .string (⟨#[116, 101, 120, 116, 47, 112, 108, 97, 105, 110, 59, 32, 99, 104, 97, 114, 115, 101, 116, 61, 117, 116, 102, 45, 56]⟩ : ByteArray)] from (uU _ _ _ (⟨(⟨#[67, 111, 110, 116, 101, 110, 116, 45, 84, 121, 112, 101]⟩ : ByteArray), (⟨#[116, 101, 120, 116, 47, 112, 108, 97, 105, 110, 59, 32, 99, 104, 97, 114, 115, 101, 116, 61, 117, 116, 102, 45, 56]⟩ : ByteArray)⟩ : gK) )) (dK.c2 (show Kd.M pU _ _ _ (⟨(⟨#[67, 111, 110, 116, 101, 110, 116, 45, 84, 114, 97, 110, 115, 102, 101, 114, 45, 69, 110, 99, 111, 100, 105, 110, 103]⟩ : ByteArray), qg ByteArray.empty Bd DZ⟩ : gK) [.string (⟨#[67, 111, 110, 116, 101, 110, 116, 45, 84, 114, 97, 110, 115, 102, 101, 114, 45, 69, 110, 99, 111, 100, 105, 110, 103]⟩ : ByteArray), .string (qg ByteArray.empty Bd DZ)] from (uU _ _ _ (⟨(⟨#[67, 111, 110, 116, 101, 110, 116, 45, 84, 114, 97, 110, 115, 102, 101, 114, 45, 69, 110, 99, 111, 100, 105, 110, 103]⟩ : ByteArray), qg ByteArray.empty Bd DZ⟩ : gK) )) (dK.none _ _)))))
        intro aow w29 XV hb CX xJ
        have Zy := (hb.cell (World.block_lt_of_cell? _ _ (hHeld.2.2))).trans (hHeld.2.2)
        clear CX xJ
        (first | rw [← XR.out] at XV | (simp only [Int.reduceToNat] at XV; rw [← XR.out] at XV))
        have KT := ak (Kd.aG (Kd.oI XV (g := oU) (o := .cells #[.string (⟨#[83, 117, 98, 106, 101, 99, 116]⟩ : ByteArray), .string xP] 69 (0, 0)) (ub kQ.out)) (aj bb))
        replace lH := rb lH hb
        replace tY := rb tY hb
        replace eU := kb eU hb
        replace kQ := ak (mQ (g := oU) (o := .cells #[.string (⟨#[83, 117, 98, 106, 101, 99, 116]⟩ : ByteArray), .string xP] 69 (0, 0)) (ub kQ.out) hb)
        replace uS := kb uS hb
        replace HB := bz HB hb
        clear hb XV
        obtain ⟨aox, aoy, aiH⟩ := Kd.aX KT.out
        (first | subst aiH | (injection aiH with sQ yO sS; have yP := sQ.symm; have yQ := sS.symm; clear sQ yO sS; subst yP; subst yQ))
        refine hK.out _ _ ⟨(aA kQ.out 0).trans rfl, (aA kQ.out 1).trans rfl, Zy⟩ (fun hHeld => ?_)
        clear hK K
        refine nrm ?_
        refine pl 8 ?_
        exact rW (by simp only [zH, Act.put, sK, sN, l_c] <;> rfl) (TV (.slice aox PK.length aoy, sF) _ ⟨hHeld, (ur (Kd.aY lH.out (fun _ hk => hk.2))), (ur (Kd.aY tY.out (fun _ hk => hk.2))), (ur (Kd.aY KT.out (fun _ hk => hk.2))), (ub eU.out), (ub kQ.out), (ub uS.out), abU.out, abV.out, tq.out, yF.out, qM.out, yG.out, bb⟩)
      rintro ⟨aow, sF⟩ w32 ⟨hS_, h0_, h1_, h2_, h3_, h4_, h5_, h6_, h7_, h8_, h9_, VL, adp, aoz⟩
      have xK : ah (Kd.R Kd.string 9 w32 w.heap.size (fun k_ => some k_ ≠ (.slice (some Rh) Bd.length aiE : Value).ownBlock) (.slice QT KQ.length Pz) KQ) := ⟨h0_⟩
      have xM : ah (Kd.R Kd.string 9 w32 w.heap.size (fun k_ => some k_ ≠ (.slice QT KQ.length Pz : Value).ownBlock) (.slice (some Rh) Bd.length aiE) Bd) := ⟨h1_⟩
      have yC : ah (Kd.R pU 69 w32 w.heap.size (fun k_ => k_ ≠ oU) aow PK) := ⟨h2_⟩
      have Ad : ah (w32.heap[xu]? = some (.cells #[.slice none 0 0, .slice none 0 0, .slice none 0 0] 28 (0, 0))) := ⟨h3_⟩
      have C9 : ah (w32.heap[oU]? = some (.cells #[.string (⟨#[83, 117, 98, 106, 101, 99, 116]⟩ : ByteArray), .string xP] 69 (0, 0))) := ⟨h4_⟩
      have D6 : ah (w32.heap[sF]? = some (.cells #[.slice none 0 0, .slice none 0 0, .slice none 0 0] 28 (0, 0))) := ⟨h5_⟩
      have Fv : ah (w.heap.size ≤ sF) := ⟨h6_⟩
      have TW : ah (w.heap.size ≤ sF) := ⟨h7_⟩
      have XW : ah (xu ≠ sF) := ⟨h8_⟩
      have n9_ : ah (sF ≠ xu) := ⟨h9_⟩
      have Rj : ah (oU ≠ sF) := ⟨VL⟩
      have afk : ah (sF ≠ oU) := ⟨adp⟩
      have aup : ah (Below w.heap.size w w32) := ⟨aoz⟩
      clear lH tY eU kQ HB h0_ h1_ h2_ h3_ h4_ h5_ h6_ h7_ h8_ h9_ VL adp aoz
      have lH := xK
      have tY := xM
      have KT := yC
      have eU := Ad
      have kQ := C9
      have uS := D6
      have abU := Fv
      have abV := TW
      have tq := XW
      have yF := n9_
      have qM := Rj
      have yG := afk
      have HB := aup
      clear xK xM yC Ad C9 D6 Fv TW XW n9_ Rj afk aup
      have hHeld : w32.cell? ⟨oU, 0, none⟩ = some (.string (⟨#[83, 117, 98, 106, 101, 99, 116]⟩ : ByteArray)) ∧ w32.cell? ⟨oU, 1, none⟩ = some (.string xP) ∧ w32.cell? (Rh.add (DZ).toNat) = some (.string (qg ByteArray.empty Bd DZ)) := hS_
      obtain ⟨Tz, TA, afl⟩ := Kd.aX KT.out
      (first | subst afl | (injection afl with sQ yO sS; have yP := sQ.symm; have yQ := sS.symm; clear sQ yO sS; subst yP; subst yQ))
      refine rW (a' := ?_) ?_ ?_
      rotate_left
      ·
       simp only [zH, Act.put, sK, sN, l_c]
       rfl
      refine o1 10 (fun K hK => ?_)
      have aHr : w32.cell? ⟨sF, 0, none⟩ = some (.slice none 0 0) := (aA uS.out 0).trans rfl
      have aCL := iG uS.out 0
      have axQ := tq.out
      have axR := qM.out
      have axS := yF.out
      have axT := yG.out
      have aHs : w32.cell? ⟨sF, 1, none⟩ = some (.slice none 0 0) := (aA uS.out 1).trans rfl
      have aCM := iG uS.out 1
      have axU := tq.out
      have axV := qM.out
      have axW := yF.out
      have axX := yG.out
      have azV : w32.cell? ⟨sF, 2, none⟩ = some (.slice none 0 0) := (aA uS.out 2).trans rfl
      have auq := iG uS.out 2
      have aiI := tq.out
      have aiJ := qM.out
      have aiK := yF.out
      have aiL := yG.out
      refine IG (w1 := ?_) (by rfl) rfl ?_ ?_
      rotate_left
      ·
       go_simp
       rfl
      refine hK.out _ _ ⟨((cell_far (p := ⟨sF, _, none⟩) qM.out _).trans (((cell_far (p := ⟨sF, _, none⟩) qM.out _).trans (((cell_far (p := ⟨sF, _, none⟩) qM.out _).trans (hHeld.1)))))), ((cell_far (p := ⟨sF, _, none⟩) qM.out _).trans (((cell_far (p := ⟨sF, _, none⟩) qM.out _).trans (((cell_far (p := ⟨sF, _, none⟩) qM.out _).trans (hHeld.2.1)))))), ((cell_far (p := ⟨sF, _, none⟩) (by first | exact Kd.wV (Kd.nO tY.out uS.out (by decide)) | (rw [add_block]; exact Kd.wV (Kd.nO tY.out uS.out (by decide))) | (show (Addr.add _ _).block ≠ _; rw [add_block]; exact Kd.wV (Kd.nO tY.out uS.out (by decide))) | (dsimp only; exact Kd.wV (Kd.nO tY.out uS.out (by decide)))) _).trans (((cell_far (p := ⟨sF, _, none⟩) (by first | exact Kd.wV (Kd.nO tY.out uS.out (by decide)) | (rw [add_block]; exact Kd.wV (Kd.nO tY.out uS.out (by decide))) | (show (Addr.add _ _).block ≠ _; rw [add_block]; exact Kd.wV (Kd.nO tY.out uS.out (by decide))) | (dsimp only; exact Kd.wV (Kd.nO tY.out uS.out (by decide)))) _).trans (((cell_far (p := ⟨sF, _, none⟩) (by first | exact Kd.wV (Kd.nO tY.out uS.out (by decide)) | (rw [add_block]; exact Kd.wV (Kd.nO tY.out uS.out (by decide))) | (show (Addr.add _ _).block ≠ _; rw [add_block]; exact Kd.wV (Kd.nO tY.out uS.out (by decide))) | (dsimp only; exact Kd.wV (Kd.nO tY.out uS.out (by decide)))) _).trans (hHeld.2.2))))))⟩ (fun hHeld => ?_)
      clear hK K
      refine II (zT vk.out (by kernel_rfl)) ?_
      have alb := yF.out
      have alc := tq.out
      have aur := yG.out
      have aus := qM.out
      have z39 := ku uS.out
      have z40 := ku eU.out
      have aCN := ku (kT (cs' := #[.slice Tz PK.length TA, .slice QT KQ.length Pz, .slice none 0 0]) (kT (cs' := #[.slice Tz PK.length TA, .slice none 0 0, .slice none 0 0]) (kT (cs' := #[.slice Tz PK.length TA, .slice none 0 0, .slice none 0 0]) (kT (cs' := #[.slice Tz PK.length TA, .slice none 0 0, .slice none 0 0]) uS.out 0 (.slice Tz PK.length TA) rfl) 1 (.slice none 0 0) rfl) 2 (.slice none 0 0) rfl) 1 (.slice QT KQ.length Pz) rfl)
      try go_wp2
      refine bodyPost_ret (l7 rfl _ _ xu 28 #[.slice Tz PK.length TA, .slice QT KQ.length Pz, .slice none 0 0] (0, 0) _ rfl bq Tryz.underlying28 rfl (by kernel_rfl)) rfl ?_
      exact ⟨_, _, _, er, rr, rr, nx, bb⟩
     ·
      obtain ⟨rfl, rfl, rfl, rfl⟩ := s4 H
      go_enter Tryz.func167, Tryz.ntmps167
      go_wp2_with (first | (refine bX HB 4 #[.slice none 0 0, .slice none 0 0, .slice none 0 0] 28 ?_; intro xu w41 eU XT hb; replace HB := bs HB hb; clear hb) | (refine gB Tryz.func194 (bT.calls A3.out) ?_; intro w42 hb; replace eU := kb eU hb; replace HB := bz HB hb; clear hb) | (refine gB Tryz.func195 (mJ.calls A4.out) ?_; intro w43 hb; replace eU := kb eU hb; replace HB := bz HB hb; clear hb) | (refine gV Tryz.func196 (kC.calls A5.out) ?_; rintro afh w44 ⟨ho0, hb⟩; have lH := ak (Kd.aG ho0 (aj bb)); replace eU := kb eU hb; replace HB := bz HB hb; clear hb; (try clear ho0)) | (refine bY HB 12 #[.string (⟨#[]⟩ : ByteArray), .string (⟨#[]⟩ : ByteArray)] 69 ?_; intro oU w45 kQ XU hg hb; have kX := Au eU hg; have uK := Aw eU hg; replace lH := rb lH hb; replace eU := kb eU hb; replace HB := bz HB hb; clear hb hg; have aut := uK.out; have auu := kX.out; have z47 := AX kQ.out) | (go_at_call 158; refine mB (jv.calls A9.out) ?_; intro w48 hb; replace lH := rg lH hb; replace eU := kp eU #[.slice none 0 0, .slice none 0 0, .slice none 0 0] hb; replace kQ := kp kQ #[.string (⟨#[83, 117, 98, 106, 101, 99, 116]⟩ : ByteArray), .string xP] hb; replace HB := bz HB hb; clear hb; obtain ⟨adq, adr, afm⟩ := Kd.aX lH.out; subst afm) | (go_at_call 114; refine mA (iR.calls (cu ((Kd.au lH.out).2.2)) ((Kd.au lH.out).2.1) W9.out) ?_; intro nd; (try (rw [Q_ w48]; generalize hq_ : World.drewN w48 _ = w48; have xK : ah (Kd.R Kd.string 9 w48 w.heap.size (fun _ => True) (.slice adq KQ.length adr) KQ) := ⟨by rw [← hq_]; exact (ur lH.out)⟩; have xM : ah (w48.heap[xu]? = some (.cells #[.slice none 0 0, .slice none 0 0, .slice none 0 0] 28 (0, 0))) := ⟨by rw [← hq_]; exact (ub eU.out)⟩; have yC : ah (w48.heap[oU]? = some (.cells #[.string (⟨#[83, 117, 98, 106, 101, 99, 116]⟩ : ByteArray), .string xP] 69 (0, 0))) := ⟨by rw [← hq_]; exact (ub kQ.out)⟩; have Ad : ah (Below w.heap.size w w48) := ⟨by rw [← hq_]; exact bb⟩; clear lH eU kQ HB hq_; have lH := xK; have eU := xM; have kQ := yC; have HB := Ad; clear xK xM yC Ad)); have z50 := ku eU.out))
      refine bodyPost_ret (l7 rfl _ _ xu 28 #[.slice none 0 0, .slice none 0 0, .slice none 0 0] (0, 0) _ rfl bq Tryz.underlying28 rfl (by kernel_rfl)) rfl ?_
      exact ⟨_, _, _, er, nx, nx, nx, bb⟩
    ·
     obtain ⟨rfl, rfl, rfl, rfl⟩ := s4 H
     go_enter Tryz.func167, Tryz.ntmps167
     go_wp2_with (first | (refine bX HB 4 #[.slice none 0 0, .slice none 0 0, .slice none 0 0] 28 ?_; intro xu w51 eU XT hb; replace HB := bs HB hb; clear hb) | (refine gB Tryz.func194 (bT.calls A3.out) ?_; intro w52 hb; replace eU := kb eU hb; replace HB := bz HB hb; clear hb) | (refine gB Tryz.func195 (mJ.calls A4.out) ?_; intro w53 hb; replace eU := kb eU hb; replace HB := bz HB hb; clear hb) | (refine gV Tryz.func196 (kC.calls A5.out) ?_; rintro afh w54 ⟨ho0, hb⟩; have lH := ak (Kd.aG ho0 (aj bb)); replace eU := kb eU hb; replace HB := bz HB hb; clear hb; (try clear ho0)) | (refine bY HB 12 #[.string (⟨#[]⟩ : ByteArray), .string (⟨#[]⟩ : ByteArray)] 69 ?_; intro oU w55 kQ XU hg hb; have kX := Au eU hg; have uK := Aw eU hg; replace lH := rb lH hb; replace eU := kb eU hb; replace HB := bz HB hb; clear hb hg; have auv := uK.out; have auw := kX.out; have z57 := AX kQ.out) | (go_at_call 158; refine mB (jv.calls A9.out) ?_; intro w58 hb; replace lH := rg lH hb; replace eU := kp eU #[.slice none 0 0, .slice none 0 0, .slice none 0 0] hb; replace kQ := kp kQ #[.string (⟨#[83, 117, 98, 106, 101, 99, 116]⟩ : ByteArray), .string xP] hb; replace HB := bz HB hb; clear hb; have z59 := ku eU.out))
     refine bodyPost_ret (l7 rfl _ _ xu 28 #[.slice none 0 0, .slice none 0 0, .slice none 0 0] (0, 0) _ rfl bq Tryz.underlying28 rfl (by kernel_rfl)) rfl ?_
     exact ⟨_, _, _, er, nx, nx, nx, bb⟩
   ·
    obtain ⟨rfl, rfl, rfl, rfl⟩ := s4 H
    go_enter Tryz.func167, Tryz.ntmps167
    go_wp2_with (first | (refine bX HB 4 #[.slice none 0 0, .slice none 0 0, .slice none 0 0] 28 ?_; intro xu J6 eU XT hb; replace HB := bs HB hb; clear hb) | (refine gB Tryz.func194 (bT.calls A3.out) ?_; intro w61 hb; replace eU := kb eU hb; replace HB := bz HB hb; clear hb) | (refine gB Tryz.func195 (mJ.calls A4.out) ?_; intro w62 hb; replace eU := kb eU hb; replace HB := bz HB hb; clear hb) | (refine gV Tryz.func196 (kC.calls A5.out) ?_; rintro afh w63 ⟨ho0, hb⟩; have lH := ak (Kd.aG ho0 (aj bb)); replace eU := kb eU hb; replace HB := bz HB hb; clear hb; (try clear ho0)) | (refine bY HB 12 #[.string (⟨#[]⟩ : ByteArray), .string (⟨#[]⟩ : ByteArray)] 69 ?_; intro oU w64 kQ XU hg hb; have kX := Au eU hg; have uK := Aw eU hg; replace lH := rb lH hb; replace eU := kb eU hb; replace HB := bz HB hb; clear hb hg; have aCO := uK.out; have aCP := kX.out; have z66 := AX kQ.out; have z67 := ku eU.out))
    refine bodyPost_ret (l7 rfl _ _ xu 28 #[.slice none 0 0, .slice none 0 0, .slice none 0 0] (0, 0) _ rfl bq Tryz.underlying28 rfl (by kernel_rfl)) rfl ?_
    exact ⟨_, _, _, er, nx, nx, nx, bb⟩
  ·
   obtain ⟨rfl, rfl, rfl, rfl⟩ := s4 H
   go_enter Tryz.func167, Tryz.ntmps167
   go_wp2_with (first | (refine bX HB 4 #[.slice none 0 0, .slice none 0 0, .slice none 0 0] 28 ?_; intro xu w68 eU XT hb; replace HB := bs HB hb; clear hb) | (refine gB Tryz.func194 (bT.calls A3.out) ?_; intro w69 hb; replace eU := kb eU hb; replace HB := bz HB hb; clear hb) | (refine gB Tryz.func195 (mJ.calls A4.out) ?_; intro w70 hb; replace eU := kb eU hb; replace HB := bz HB hb; clear hb) | (refine gV Tryz.func196 (kC.calls A5.out) ?_; rintro afh w71 ⟨ho0, hb⟩; have lH := ak (Kd.aG ho0 (aj bb)); replace eU := kb eU hb; replace HB := bz HB hb; clear hb; (try clear ho0)) | (refine bY HB 12 #[.string (⟨#[]⟩ : ByteArray), .string (⟨#[]⟩ : ByteArray)] 69 ?_; intro oU w72 kQ XU hg hb; have kX := Au eU hg; have uK := Aw eU hg; replace lH := rb lH hb; replace eU := kb eU hb; replace HB := bz HB hb; clear hb hg; have aCQ := uK.out; have aCR := kX.out; have z74 := AX kQ.out; have z75 := ku eU.out))
   refine bodyPost_ret (l7 rfl _ _ xu 28 #[.slice none 0 0, .slice none 0 0, .slice none 0 0] (0, 0) _ rfl bq Tryz.underlying28 rfl (by kernel_rfl)) rfl ?_
   exact ⟨_, _, _, er, nx, nx, nx, bb⟩
 ·
  obtain ⟨rfl, rfl, rfl, rfl⟩ := s4 H
  go_enter Tryz.func167, Tryz.ntmps167
  go_wp2_with (first | (refine bX HB 4 #[.slice none 0 0, .slice none 0 0, .slice none 0 0] 28 ?_; intro xu w76 eU XT hb; replace HB := bs HB hb; clear hb) | (refine gB Tryz.func194 (bT.calls A3.out) ?_; intro w77 hb; replace eU := kb eU hb; replace HB := bz HB hb; clear hb) | (refine gB Tryz.func195 (mJ.calls A4.out) ?_; intro w78 hb; replace eU := kb eU hb; replace HB := bz HB hb; clear hb) | (refine gV Tryz.func196 (kC.calls A5.out) ?_; rintro afh w79 ⟨ho0, hb⟩; have lH := ak (Kd.aG ho0 (aj bb)); replace eU := kb eU hb; replace HB := bz HB hb; clear hb; (try clear ho0)) | (refine bY HB 12 #[.string (⟨#[]⟩ : ByteArray), .string (⟨#[]⟩ : ByteArray)] 69 ?_; intro oU w80 kQ XU hg hb; have kX := Au eU hg; have uK := Aw eU hg; replace lH := rb lH hb; replace eU := kb eU hb; replace HB := bz HB hb; clear hb hg; have auy := uK.out; have auz := kX.out; have z82 := AX kQ.out; have z83 := ku eU.out))
  refine bodyPost_ret (l7 rfl _ _ xu 28 #[.slice none 0 0, .slice none 0 0, .slice none 0 0] (0, 0) _ rfl bq Tryz.underlying28 rfl (by kernel_rfl)) rfl ?_
  exact ⟨_, _, _, er, nx, nx, nx, bb⟩
def uo.f (k : Nat) (a0 : ByteArray) (a1 : ByteArray) : Option ((List (gK)) × List ByteArray × (List (mV)) × Bool) := (gQ.f k a0 a1).bind fun abW => ((iO.f k abW.1 abW.2.1 abW.2.2.1).bind fun afn => (some (afn.1, afn.2.1, afn.2.2, abW.2.2.2)))
theorem uo.calls {k : Nat} {a0 a1 : ByteArray} {r1 : List (gK)} {r2 : List ByteArray} {r3 : List (mV)} {r4 : Bool} {w : World} (h : uo.f k a0 a1 = some (r1, r2, r3, r4)) :
  Calls Tryz.prog 142 #[.string a0, .string a1] w fun e w' => ∃ rY F7 Iw : Value, e = .returned (.tuple #[.agg #[rY, F7, Iw], .bool r4]) ∧ Kd.R pU 69 w' w.heap.size (fun _ => True) rY r1 ∧ Kd.R Kd.string 9 w' w.heap.size (fun _ => True) F7 r2 ∧ Kd.R k28 28 w' w.heap.size (fun k_ => some k_ ≠ (rY : Value).ownBlock ∧ some k_ ≠ (F7 : Value).ownBlock) Iw r3 ∧ Below w.heap.size w w' := by
 have Et := Tryz.underlying28
 have HB := ak (Below.refl w.heap.size w)
 unfold uo.f at h; have H := h
 clear h
 replace H := bd H
 obtain ⟨⟨XY, XZ, Zz, aHt⟩, A3, H⟩ := H
 (try dsimp only at H)
 replace H := bd H
 obtain ⟨⟨azW, azX, azY⟩, A4, H⟩ := H
 (try dsimp only at H)
 obtain ⟨rfl, rfl, rfl, rfl⟩ := s4 H
 go_enter Tryz.func142, Tryz.ntmps142
 go_wp2_with (first | (refine bX HB 4 #[.slice none 0 0, .slice none 0 0, .slice none 0 0] 28 ?_; intro abX w5 IK aCS hb; replace HB := bs HB hb; clear hb) | (refine gL 167 11 Tryz.func167 #[.string a0, .string a1] ?_; (with_reducible refine (gQ.calls A3.out).mono ?_); rintro e w6 ⟨aHu, aHv, aHw, rfl, ho0, ho1, ho2, hb⟩; refine ⟨_, rfl, ?_⟩; have KU := ak (Kd.aG ho0 (aj bb)); have KW := ak (Kd.aG ho1 (aj bb)); have OZ := ak (Kd.aG (Kd.oI ho2 (g := abX) (o := .cells #[.slice none 0 0, .slice none 0 0, .slice none 0 0] 28 (0, 0)) (ub IK.out)) (aj bb)); replace IK := kb IK hb; replace HB := bz HB hb; clear hb; (try clear ho0); (try clear ho1); (try clear ho2)) | (refine bY HB 6 #[.slice none 0 0, .slice none 0 0, .slice none 0 0] 28 ?_; intro BJ w7 afo aCT hg hb; have ads := Au IK hg; have adt := Aw IK hg; replace KU := rb KU hb; replace KW := rb KW hb; replace OZ := ak (Kd.rD (Kd.wB (ur OZ.out) BJ (Nat.le_of_eq hg.symm)) hb); replace IK := kb IK hb; replace HB := bz HB hb; clear hb hg; obtain ⟨yH, xW, eo8⟩ := Kd.aX KU.out; subst eo8; have ayv := adt.out; have ayw := ads.out; have z10 := ku afo.out; obtain ⟨pq, oK, NQ⟩ := Kd.aX KW.out; subst NQ; obtain ⟨I4, Ie, YS⟩ := Kd.aX OZ.out; subst YS) | (refine gL 61 15 Tryz.func61 #[.agg #[.slice yH XY.length xW, .slice pq XZ.length oK, .slice I4 Zz.length Ie]] ?_; (with_reducible refine (iO.calls ?gJ ((Kd.au KU.out).2.1) ?Af ((Kd.au KW.out).2.1) ?Ag ((Kd.au OZ.out).2.1) A4.out).mono ?_); (case gJ => refine (Kd.au (e := 69) (base := w.heap.size) (ok := fun k_ => True) (n := XY.length) (c := xW) ?_).2.2; exact (rh KU)); (case Af => refine (Kd.au (e := 9) (base := w.heap.size) (ok := fun k_ => True) (n := XZ.length) (c := oK) ?_).2.2; exact (rh KW)); (case Ag => refine (Kd.au (e := 28) (base := w.heap.size) (ok := fun k_ => (((some k_ ≠ (.slice yH XY.length xW : Value).ownBlock ∧ some k_ ≠ (.slice pq XZ.length oK : Value).ownBlock) ∧ k_ ≠ abX) ∧ k_ ≠ BJ)) (n := Zz.length) (c := Ie) ?_).2.2; exact (ur (Kd.aY (Kd.jy (p := ⟨BJ, 2, none⟩) (Kd.jy (p := ⟨BJ, 1, none⟩) (Kd.jy (p := ⟨BJ, 0, none⟩) (Kd.aY OZ.out (fun k_ hk => (⟨hk, hk.2⟩ : _ ∧ k_ ≠ BJ))) (fun _ hk => hk.2) (.slice yH XY.length xW)) (fun _ hk => hk.2) (.slice pq XZ.length oK)) (fun _ hk => hk.2) (.slice I4 Zz.length Ie)) (fun _ h_ => h_.1)))); rintro e w13 ⟨aHx, aHy, aHz, rfl, ho0, ho1, ho2, hb⟩; refine ⟨_, rfl, ?_⟩; have auA := ak (Kd.aG (Kd.fK ho0 (Kd.jH (rh KU))) (aj bb)); have auB := ak (Kd.aG (Kd.fK ho1 (Kd.jH (rh KW))) (aj bb)); have auC := ak (Kd.aG (Kd.oI (Kd.oI (Kd.fK (Kd.fK (Kd.fK ho2 (Kd.jH (rh KU))) (Kd.jH (rh KW))) (Kd.jH (ur (Kd.aY (Kd.jy (p := ⟨BJ, 2, none⟩) (Kd.jy (p := ⟨BJ, 1, none⟩) (Kd.jy (p := ⟨BJ, 0, none⟩) (Kd.aY OZ.out (fun k_ hk => (⟨hk, hk.2⟩ : _ ∧ k_ ≠ BJ))) (fun _ hk => hk.2) (.slice yH XY.length xW)) (fun _ hk => hk.2) (.slice pq XZ.length oK)) (fun _ hk => hk.2) (.slice I4 Zz.length Ie)) (fun _ h_ => h_.1))))) (g := abX) (o := .cells #[.slice none 0 0, .slice none 0 0, .slice none 0 0] 28 (0, 0)) bq) (g := BJ) (o := .cells #[.slice yH XY.length xW, .slice pq XZ.length oK, .slice I4 Zz.length Ie] 28 (0, 0)) bq) (aj bb)); replace KU := ak (Kd.fA (rh KU) (Kd.eH ho0) hb); replace KW := ak (Kd.fA (rh KW) (Kd.eH ho1) hb); replace OZ := ak (Kd.aY (Kd.qR (Kd.qR (Kd.qR (Kd.aej (ur (Kd.aY (Kd.jy (p := ⟨BJ, 2, none⟩) (Kd.jy (p := ⟨BJ, 1, none⟩) (Kd.jy (p := ⟨BJ, 0, none⟩) (Kd.aY OZ.out (fun k_ hk => (⟨hk, hk.2⟩ : _ ∧ k_ ≠ BJ))) (fun _ hk => hk.2) (.slice yH XY.length xW)) (fun _ hk => hk.2) (.slice pq XZ.length oK)) (fun _ hk => hk.2) (.slice I4 Zz.length Ie)) (fun _ h_ => h_.1))) hb) (Kd.eH ho0)) (Kd.eH ho1)) (Kd.eH ho2)) (fun _ h_ => h_.1)); replace IK := kp IK #[.slice none 0 0, .slice none 0 0, .slice none 0 0] hb; replace afo := kp afo #[.slice yH XY.length xW, .slice pq XZ.length oK, .slice I4 Zz.length Ie] hb; replace HB := bz HB hb; clear hb; (try clear ho0); (try clear ho1); (try clear ho2); obtain ⟨Xf, Xg, U5⟩ := Kd.aX auA.out; subst U5; have OH := ku IK.out; obtain ⟨adl, adn, Zx⟩ := Kd.aX auB.out; subst Zx; obtain ⟨FW, ED, Tm⟩ := Kd.aX auC.out; subst Tm))
 refine bodyPost_ret (l7 rfl _ _ abX 28 #[.slice Xf azW.length Xg, .slice adl azX.length adn, .slice FW azY.length ED] (0, 0) _ rfl bq Tryz.underlying28 rfl (by kernel_rfl)) rfl ?_
 exact ⟨_, _, _, er, rr, rr, rr, bb⟩
mutual
def iT.l0 : Nat → ByteArray → Int → List Int → Int → Option (ByteArray × Int)
 | 0, _, _, _, _ => none
 | k + 1, x3, x4, x1000, ql => if x4 > 0 then ((fV.f k x1000 ql (([(⟨#[104, 101, 108, 108, 111]⟩ : ByteArray), (⟨#[32]⟩ : ByteArray), (⟨#[61]⟩ : ByteArray), (⟨#[10]⟩ : ByteArray), (⟨#[255, 0]⟩ : ByteArray), (⟨#[99, 97, 102, 195, 169]⟩ : ByteArray), (⟨#[97, 32, 108, 111, 110, 103, 101, 114, 32, 114, 111, 119, 32, 111, 102, 32, 119, 111, 114, 100, 115, 32, 116, 104, 97, 116, 32, 105, 115, 32, 98, 114, 111, 107, 101, 110, 32, 104, 101, 114, 101]⟩ : ByteArray), (⟨#[120]⟩ : ByteArray), (⟨#[46]⟩ : ByteArray), (⟨#[9]⟩ : ByteArray)] : List ByteArray))).bind fun afp => (if x3.size + afp.1.size ≤ 9223372036854775807 then (iT.l0 k (x3 ++ afp.1) (wrap64 (x4 - 1)) x1000 afp.2) else (none))) else ((dF.f k x1000 ql 40).bind fun afq => (if afq.1 = 0 then (iT.l1 k x3 x1000 afq.2) else (some (x3, afq.2))))
def iT.l1 : Nat → ByteArray → List Int → Int → Option (ByteArray × Int)
 | 0, _, _, _ => none
 | k + 1, x3, x1000, ql => if (x3.size : Int) ≤ 300 then (if x3.size + 10 ≤ 9223372036854775807 then (iT.l1 k (x3 ++ (⟨#[48, 49, 50, 51, 52, 53, 54, 55, 56, 57]⟩ : ByteArray)) x1000 ql) else (none)) else (some (x3, ql))
end
def iT.f (k : Nat) (fO : List Int) (kZ : Int) : Option (ByteArray × Int) := (kW.f k fO kZ (([3, 2, 5, 1, 0, 8] : List Int))).bind fun ald => (iT.l0 k (⟨#[]⟩ : ByteArray) ald.1 fO ald.2)
theorem iT.calls {k g : Nat} {fO : List Int} {kZ r2 : Int} {r1 : ByteArray} {w : World} (w0 : World) (hI : aI w0 w g fO kZ) (hB : Below w0.heap.size w0 w) (h : iT.f k fO kZ = some (r1, r2)) :
  Calls Tryz.prog 143 #[.pointer (some ⟨g, 0, none⟩)] w fun e w' => e = .returned (.string r1) ∧ aI w0 w' g fO r2 ∧ Below w0.heap.size w0 w' ∧ aJ w w' g none := by
 have HI0 := ak hI
 have HK := ak (aJ.refl w g none)
 have HL := ak hB.size
 clear hI
 have HW0 := ak hB.size
 have HB := ak hB
 clear hB
 unfold iT.f at h; have H := h
 clear h
 obtain ⟨azZ, ale⟩ := nm ([3, 2, 5, 1, 0, 8] : List Int)
 rw [← ale.out] at H
 replace H := bd H
 obtain ⟨⟨aHA, aHB⟩, A2, H⟩ := H
 (try dsimp only at H)
 have H' := ak H; clear H
 go_enter Tryz.func143, Tryz.ntmps143
 go_wp2_with (first | (refine SX 6 (Kd.int .i64) 3 [.int .i64 3, .int .i64 2, .int .i64 5, .int .i64 1, .int .i64 0, .int .i64 8] ale (dK.one (show Kd.M (Kd.int .i64) _ _ _ 3 [.int .i64 3] from rfl) (dK.one (show Kd.M (Kd.int .i64) _ _ _ 2 [.int .i64 2] from rfl) (dK.one (show Kd.M (Kd.int .i64) _ _ _ 5 [.int .i64 5] from rfl) (dK.one (show Kd.M (Kd.int .i64) _ _ _ 1 [.int .i64 1] from rfl) (dK.one (show Kd.M (Kd.int .i64) _ _ _ 0 [.int .i64 0] from rfl) (dK.one (show Kd.M (Kd.int .i64) _ _ _ 8 [.int .i64 8] from rfl) (dK.none _ _))))))) ?_; intro aHC w3 TU hb; have TY := ak (Kd.aG TU (dR (w := w) (g := g) (row := none) (kh HK.out))); replace HK := ak (aJ.trans (kh HK.out) (aJ.of_below hb g none) (.inl rfl)); replace HB := ak (iL pY hb); replace HI0 := ak (aI.below pX hb); clear hb TU; obtain ⟨Ao5, co5, eo5⟩ := Kd.aX TY.out; subst eo5) | (refine gL 97 7 Tryz.func97 #[.pointer (some ⟨g, 0, none⟩), .slice Ao5 azZ.length co5] ?_; (with_reducible refine (kW.calls w0 ?gJ ?jf (cu ((Kd.au TY.out).2.2)) ((Kd.au TY.out).2.1) (oz (aI.own_ne HI0.out TY.out (by decide))) A2.out).mono ?_); (case gJ => exact pX); (case jf => exact pY); rintro e w6 ⟨rfl, hi, hb, hk⟩; refine ⟨_, rfl, ?_⟩; replace TY := ki TY hk; replace HK := kt HK hk; replace HB := ak (hb); replace HI0 := ak (hi); clear hb; (try clear hk); (try clear hi)))
 go_loopg [3, 4] k (fun kq v3 v4 w' => ∃ (dZ : ByteArray) (fG : Int) (y9 : Int), v3 = .string dZ ∧ v4 = .int .i64 fG ∧ ah (iT.l0 kq dZ fG fO y9 = some (r1, r2)) ∧ ah (kq ≤ k) ∧ ah (aI w0 w' g fO y9) ∧ ah (aJ w w' g none) ∧ ah (Below w0.heap.size w0 w'))
 case atStart => exact ⟨_, _, _, rs, rs, H', ⟨Nat.le_refl _⟩, ⟨pX⟩, ⟨kh HK.out⟩, ⟨pY⟩⟩
 case round =>
  clear H'
  obtain ⟨dZ, fG, y9, rfl, rfl, HA, yB, HI0, HK, HB⟩ := hrel
  cases gk with
  | zero => exact zz HA.out
  | succ k1 =>
   obtain ⟨H⟩ := HA
   simp only [iT.l0] at H
   replace H := sp H
   rcases H with ⟨c7, H⟩ | ⟨c7, H⟩
   ·
    have sH : decide (0 < fG) = true := decide_eq_true c7
    clear c7
    obtain ⟨az0, alf⟩ := nm ([(⟨#[104, 101, 108, 108, 111]⟩ : ByteArray), (⟨#[32]⟩ : ByteArray), (⟨#[61]⟩ : ByteArray), (⟨#[10]⟩ : ByteArray), (⟨#[255, 0]⟩ : ByteArray), (⟨#[99, 97, 102, 195, 169]⟩ : ByteArray), (⟨#[97, 32, 108, 111, 110, 103, 101, 114, 32, 114, 111, 119, 32, 111, 102, 32, 119, 111, 114, 100, 115, 32, 116, 104, 97, 116, 32, 105, 115, 32, 98, 114, 111, 107, 101, 110, 32, 104, 101, 114, 101]⟩ : ByteArray), (⟨#[120]⟩ : ByteArray), (⟨#[46]⟩ : ByteArray), (⟨#[9]⟩ : ByteArray)] : List ByteArray)
    rw [← alf.out] at H
    replace H := bd H
    obtain ⟨⟨az1, aHD⟩, A8, H⟩ := H
    (try dsimp only at H)
    replace H := nn H; obtain ⟨c9, H⟩ := H
    have zu := eq_true c9
    have Gn := decide_eq_true c9
    try have auD : (9223372036854775807 < dZ.size + az1.size) = False := eq_false (Nat.not_lt.2 c9)
    have H' := ak H; clear H
    go_wp2_with (first | (refine SX 14 Kd.string 9 [.string (⟨#[104, 101, 108, 108, 111]⟩ : ByteArray), .string (⟨#[32]⟩ : ByteArray), .string (⟨#[61]⟩ : ByteArray), .string (⟨#[10]⟩ : ByteArray), .string (⟨#[255, 0]⟩ : ByteArray), .string (⟨#[99, 97, 102, 195, 169]⟩ : ByteArray), .string (⟨#[97, 32, 108, 111, 110, 103, 101, 114, 32, 114, 111, 119, 32, 111, 102, 32, 119, 111, 114, 100, 115, 32, 116, 104, 97, 116, 32, 105, 115, 32, 98, 114, 111, 107, 101, 110, 32, 104, 101, 114, 101]⟩ : ByteArray), .string (⟨#[120]⟩ : ByteArray), .string (⟨#[46]⟩ : ByteArray), .string (⟨#[9]⟩ : ByteArray)] alf (dK.one (show Kd.M Kd.string _ _ _ (⟨#[104, 101, 108, 108, 111]⟩ : ByteArray) [.string (⟨#[104, 101, 108, 108, 111]⟩ : ByteArray)] from rfl) (dK.one (show Kd.M Kd.string _ _ _ (⟨#[32]⟩ : ByteArray) [.string (⟨#[32]⟩ : ByteArray)] from rfl) (dK.one (show Kd.M Kd.string _ _ _ (⟨#[61]⟩ : ByteArray) [.string (⟨#[61]⟩ : ByteArray)] from rfl) (dK.one (show Kd.M Kd.string _ _ _ (⟨#[10]⟩ : ByteArray) [.string (⟨#[10]⟩ : ByteArray)] from rfl) (dK.one (show Kd.M Kd.string _ _ _ (⟨#[255, 0]⟩ : ByteArray) [.string (⟨#[255, 0]⟩ : ByteArray)] from rfl) (dK.one (show Kd.M Kd.string _ _ _ (⟨#[99, 97, 102, 195, 169]⟩ : ByteArray) [.string (⟨#[99, 97, 102, 195, 169]⟩ : ByteArray)] from rfl) (dK.one (show Kd.M Kd.string _ _ _ (⟨#[97, 32, 108, 111, 110, 103, 101, 114, 32, 114, 111, 119, 32, 111, 102, 32, 119, 111, 114, 100, 115, 32, 116, 104, 97, 116, 32, 105, 115, 32, 98, 114, 111, 107, 101, 110, 32, 104, 101, 114, 101]⟩ : ByteArray) [.string (⟨#[97, 32, 108, 111, 110, 103, 101, 114, 32, 114, 111, 119, 32, 111, 102, 32, 119, 111, 114, 100, 115, 32, 116, 104, 97, 116, 32, 105, 115, 32, 98, 114, 111, 107, 101, 110, 32, 104, 101, 114, 101]⟩ : ByteArray)] from rfl) (dK.one (show Kd.M Kd.string _ _ _ (⟨#[120]⟩ : ByteArray) [.string (⟨#[120]⟩ : ByteArray)] from rfl) (dK.one (show Kd.M Kd.string _ _ _ (⟨#[46]⟩ : ByteArray) [.string (⟨#[46]⟩ : ByteArray)] from rfl) (dK.one (show Kd.M Kd.string _ _ _ (⟨#[9]⟩ : ByteArray) [.string (⟨#[9]⟩ : ByteArray)] from rfl) (dK.none _ _))))))))))) ?_; intro aHE w10 auE hb; have T_ := ak (Kd.aG auE (dR (w := w) (g := g) (row := none) (kh HK.out))); replace HK := ak (aJ.trans (kh HK.out) (aJ.of_below hb g none) (.inl rfl)); replace HB := ak (iL pY hb); replace HI0 := ak (aI.below pX hb); clear hb auE; obtain ⟨I4, Ie, YS⟩ := Kd.aX T_.out; subst YS) | (refine gL 58 15 Tryz.func58 #[.pointer (some ⟨g, 0, none⟩), .slice I4 az0.length Ie] ?_; (with_reducible refine (fV.calls w0 ?gJ ?jf (cu ((Kd.au T_.out).2.2)) ((Kd.au T_.out).2.1) (oz (aI.own_ne HI0.out T_.out (by decide))) A8.out).mono ?_); (case gJ => exact pX); (case jf => exact pY); rintro e w13 ⟨rfl, hi, hb, hk⟩; refine ⟨_, rfl, ?_⟩; replace T_ := ki T_ hk; replace HK := kt HK hk; replace HB := ak (hb); replace HI0 := ak (hi); clear hb; (try clear hk); (try clear hi)))
    go_roundg k1
    case measure => exact kl
    case rel => exact ⟨_, _, _, rs, rs, H', ⟨kl⟩, ⟨pX⟩, ⟨kh HK.out⟩, ⟨pY⟩⟩
   ·
    have sH : decide (0 < fG) = false := decide_eq_false c7
    clear c7
    replace H := bd H
    obtain ⟨⟨aHF, auF⟩, A14, H⟩ := H
    (try dsimp only at H)
    replace H := sq H
    rcases H with ⟨xq, Gi, H⟩ | ⟨c15, xq, Gi, H⟩
    ·
     have H' := ak H; clear H
     go_wp2_with (refine gL 57 18 Tryz.func57 #[.pointer (some ⟨g, 0, none⟩), .int .i64 40] ?_; (with_reducible refine (dF.calls w0 ?gJ ?jf A14.out).mono ?_); (case gJ => exact pX); (case jf => exact pY); rintro e w16 ⟨rfl, hi, hb, hk⟩; refine ⟨_, rfl, ?_⟩; replace HK := kt HK hk; replace HB := ak (hb); replace HI0 := ak (hi); clear hb; (try clear hk); (try clear hi))
     go_loopg [3] k1 (fun kq v3 w' => ∃ (lV : ByteArray), v3 = .string lV ∧ ah (iT.l1 kq lV fO auF = some (r1, r2)) ∧ ah (kq ≤ k1) ∧ ah (aI w0 w' g fO auF) ∧ ah (aJ w w' g none) ∧ ah (Below w0.heap.size w0 w'))
     case atStart => exact ⟨_, rs, H', ⟨Nat.le_refl _⟩, ⟨pX⟩, ⟨kh HK.out⟩, ⟨pY⟩⟩
     case round =>
      clear H'
      try clear c7
      try clear sH
      try clear c15
      try clear xq
      try clear Gi
      obtain ⟨lV, rfl, HA, HK2, HI0, HK, HB⟩ := hrel
      cases gk with
      | zero => exact zz HA.out
      | succ k2 =>
       obtain ⟨H⟩ := HA
       simp only [iT.l1] at H
       replace H := sp H
       rcases H with ⟨c17, H⟩ | ⟨c17, H⟩
       ·
        have uQ := decide_eq_true c17
        have OQ : decide (lV.size ≤ 300) = true := decide_eq_true (by omega)
        clear c17
        replace H := nn H; obtain ⟨c18, H⟩ := H
        have AQ := eq_true c18
        have QI := decide_eq_true c18
        try have aj9 : (9223372036854775807 < lV.size + 10) = False := eq_false (Nat.not_lt.2 c18)
        have H' := ak H; clear H
        go_wp2
        go_roundg k2
        case measure => exact kl
        case rel => exact ⟨_, rs, H', ⟨kl⟩, ⟨pX⟩, ⟨kh HK.out⟩, ⟨pY⟩⟩
       ·
        have uQ := decide_eq_false c17
        have OQ : decide (lV.size ≤ 300) = false := decide_eq_false (by omega)
        clear c17
        obtain ⟨rfl, rfl⟩ := s2 H
        go_wp2
        go_ret
        exact ⟨er, pX, pY, kh HK.out⟩
    ·
     obtain ⟨rfl, rfl⟩ := s2 H
     go_wp2_with (refine gL 57 18 Tryz.func57 #[.pointer (some ⟨g, 0, none⟩), .int .i64 40] ?_; (with_reducible refine (dF.calls w0 ?gJ ?jf A14.out).mono ?_); (case gJ => exact pX); (case jf => exact pY); rintro e YM ⟨rfl, hi, hb, hk⟩; refine ⟨_, rfl, ?_⟩; replace HK := kt HK hk; replace HB := ak (hb); replace HI0 := ak (hi); clear hb; (try clear hk); (try clear hi))
     go_ret
     exact ⟨er, pX, pY, kh HK.out⟩
def wL.f (k : Nat) (fO : List Int) (kZ : Int) : Option (ByteArray × ByteArray × Int) := (fV.f k fO kZ (([(⟨#[84, 111]⟩ : ByteArray), (⟨#[70, 114, 111, 109]⟩ : ByteArray), (⟨#[83, 117, 98, 106, 101, 99, 116]⟩ : ByteArray), (⟨#[88, 45, 89]⟩ : ByteArray), (⟨#[82, 101, 99, 101, 105, 118, 101, 100]⟩ : ByteArray), (⟨#[116, 111]⟩ : ByteArray), (⟨#[68, 97, 116, 101]⟩ : ByteArray)] : List ByteArray))).bind fun alg => ((fV.f k fO alg.2 (([(⟨#[]⟩ : ByteArray), (⟨#[120]⟩ : ByteArray), (⟨#[97, 32, 98]⟩ : ByteArray), (⟨#[104, 101, 108, 108, 111, 32, 116, 104, 101, 114, 101, 44, 32, 116, 104, 105, 115, 32, 105, 115, 32, 97, 32, 108, 111, 110, 103, 101, 114, 32, 118, 97, 108, 117, 101, 32, 116, 104, 97, 116, 32, 105, 115, 32, 98, 114, 111, 107, 101, 110]⟩ : ByteArray), (⟨#[97, 97, 97, 97, 97, 97, 97, 97, 97, 97, 97, 97, 97, 97, 97, 97, 97, 97, 97, 97, 97, 97, 97, 97, 97, 97, 97, 97, 97, 97, 97, 97, 97, 97, 97, 97, 97, 97, 97, 97, 97, 97, 97, 97, 97, 97, 97, 97, 97, 97, 97, 32, 98]⟩ : ByteArray), (⟨#[116, 119, 111, 32, 32, 115, 112, 97, 99, 101, 115, 32, 115, 116, 97, 121, 32, 32, 116, 111, 103, 101, 116, 104, 101, 114, 32, 105, 110, 32, 104, 101, 114, 101, 44, 32, 97, 110, 100, 32, 115, 111, 32, 100, 111, 32, 116, 104, 101, 115, 101, 32, 32, 111, 110, 101, 115]⟩ : ByteArray), (⟨#[97, 58, 98]⟩ : ByteArray), (⟨#[111, 110, 101, 32, 116, 119, 111, 32, 116, 104, 114, 101, 101, 32, 102, 111, 117, 114, 32, 102, 105, 118, 101, 32, 115, 105, 120, 32, 115, 101, 118, 101, 110, 32, 101, 105, 103, 104, 116, 32, 110, 105, 110, 101, 32, 116, 101, 110, 32, 101, 108, 101, 118, 101, 110]⟩ : ByteArray)] : List ByteArray))).bind fun alh => (some (alg.1, alh.1, alh.2)))
theorem wL.calls {k g : Nat} {fO : List Int} {kZ r3 : Int} {r1 r2 : ByteArray} {w : World} (w0 : World) (hI : aI w0 w g fO kZ) (hB : Below w0.heap.size w0 w) (h : wL.f k fO kZ = some (r1, r2, r3)) :
  Calls Tryz.prog 168 #[.pointer (some ⟨g, 0, none⟩)] w fun e w' => e = .returned (.agg #[.string r1, .string r2]) ∧ aI w0 w' g fO r3 ∧ Below w0.heap.size w0 w' ∧ aJ w w' g none := by
 have DK := Tryz.underlying69
 have HI0 := ak hI
 have HK := ak (aJ.refl w g none)
 have HL := ak hB.size
 clear hI
 have HW0 := ak hB.size
 have HB := ak hB
 clear hB
 unfold wL.f at h; have H := h
 clear h
 obtain ⟨az2, ali⟩ := nm ([(⟨#[84, 111]⟩ : ByteArray), (⟨#[70, 114, 111, 109]⟩ : ByteArray), (⟨#[83, 117, 98, 106, 101, 99, 116]⟩ : ByteArray), (⟨#[88, 45, 89]⟩ : ByteArray), (⟨#[82, 101, 99, 101, 105, 118, 101, 100]⟩ : ByteArray), (⟨#[116, 111]⟩ : ByteArray), (⟨#[68, 97, 116, 101]⟩ : ByteArray)] : List ByteArray)
 rw [← ali.out] at H
 replace H := bd H
 obtain ⟨⟨az3, aHG⟩, A2, H⟩ := H
 (try dsimp only at H)
 obtain ⟨az4, alj⟩ := nm ([(⟨#[]⟩ : ByteArray), (⟨#[120]⟩ : ByteArray), (⟨#[97, 32, 98]⟩ : ByteArray), (⟨#[104, 101, 108, 108, 111, 32, 116, 104, 101, 114, 101, 44, 32, 116, 104, 105, 115, 32, 105, 115, 32, 97, 32, 108, 111, 110, 103, 101, 114, 32, 118, 97, 108, 117, 101, 32, 116, 104, 97, 116, 32, 105, 115, 32, 98, 114, 111, 107, 101, 110]⟩ : ByteArray), (⟨#[97, 97, 97, 97, 97, 97, 97, 97, 97, 97, 97, 97, 97, 97, 97, 97, 97, 97, 97, 97, 97, 97, 97, 97, 97, 97, 97, 97, 97, 97, 97, 97, 97, 97, 97, 97, 97, 97, 97, 97, 97, 97, 97, 97, 97, 97, 97, 97, 97, 97, 97, 32, 98]⟩ : ByteArray), (⟨#[116, 119, 111, 32, 32, 115, 112, 97, 99, 101, 115, 32, 115, 116, 97, 121, 32, 32, 116, 111, 103, 101, 116, 104, 101, 114, 32, 105, 110, 32, 104, 101, 114, 101, 44, 32, 97, 110, 100, 32, 115, 111, 32, 100, 111, 32, 116, 104, 101, 115, 101, 32, 32, 111, 110, 101, 115]⟩ : ByteArray), (⟨#[97, 58, 98]⟩ : ByteArray), (⟨#[111, 110, 101, 32, 116, 119, 111, 32, 116, 104, 114, 101, 101, 32, 102, 111, 117, 114, 32, 102, 105, 118, 101, 32, 115, 105, 120, 32, 115, 101, 118, 101, 110, 32, 101, 105, 103, 104, 116, 32, 110, 105, 110, 101, 32, 116, 101, 110, 32, 101, 108, 101, 118, 101, 110]⟩ : ByteArray)] : List ByteArray)
 rw [← alj.out] at H
 replace H := bd H
 obtain ⟨⟨az5, aHH⟩, A3, H⟩ := H
 (try dsimp only at H)
 obtain ⟨rfl, rfl, rfl⟩ := s3 H
 go_enter Tryz.func168, Tryz.ntmps168
 go_wp2_with (first | (refine bS HI0 HK HB HW0 2 #[.string (⟨#[]⟩ : ByteArray), .string (⟨#[]⟩ : ByteArray)] 69 ?_; clear HI0 HK HB; intro auG w4 KX aCU aCV aiM VN hg hb HI0 HK HB; clear hb hg) | (refine SX 4 Kd.string 9 [.string (⟨#[84, 111]⟩ : ByteArray), .string (⟨#[70, 114, 111, 109]⟩ : ByteArray), .string (⟨#[83, 117, 98, 106, 101, 99, 116]⟩ : ByteArray), .string (⟨#[88, 45, 89]⟩ : ByteArray), .string (⟨#[82, 101, 99, 101, 105, 118, 101, 100]⟩ : ByteArray), .string (⟨#[116, 111]⟩ : ByteArray), .string (⟨#[68, 97, 116, 101]⟩ : ByteArray)] ali (dK.one (show Kd.M Kd.string _ _ _ (⟨#[84, 111]⟩ : ByteArray) [.string (⟨#[84, 111]⟩ : ByteArray)] from rfl) (dK.one (show Kd.M Kd.string _ _ _ (⟨#[70, 114, 111, 109]⟩ : ByteArray) [.string (⟨#[70, 114, 111, 109]⟩ : ByteArray)] from rfl) (dK.one (show Kd.M Kd.string _ _ _ (⟨#[83, 117, 98, 106, 101, 99, 116]⟩ : ByteArray) [.string (⟨#[83, 117, 98, 106, 101, 99, 116]⟩ : ByteArray)] from rfl) (dK.one (show Kd.M Kd.string _ _ _ (⟨#[88, 45, 89]⟩ : ByteArray) [.string (⟨#[88, 45, 89]⟩ : ByteArray)] from rfl) (dK.one (show Kd.M Kd.string _ _ _ (⟨#[82, 101, 99, 101, 105, 118, 101, 100]⟩ : ByteArray) [.string (⟨#[82, 101, 99, 101, 105, 118, 101, 100]⟩ : ByteArray)] from rfl) (dK.one (show Kd.M Kd.string _ _ _ (⟨#[116, 111]⟩ : ByteArray) [.string (⟨#[116, 111]⟩ : ByteArray)] from rfl) (dK.one (show Kd.M Kd.string _ _ _ (⟨#[68, 97, 116, 101]⟩ : ByteArray) [.string (⟨#[68, 97, 116, 101]⟩ : ByteArray)] from rfl) (dK.none _ _)))))))) ?_; intro aHI w5 YI hb; have Gv := ak (Kd.aG YI (dR (w := w) (g := g) (row := none) (kh HK.out))); replace KX := kb KX hb; replace HK := ak (aJ.trans (kh HK.out) (aJ.of_below hb g none) (.inl rfl)); replace HB := ak (iL pY hb); replace HI0 := ak (aI.below pX hb); clear hb YI; obtain ⟨Ao7, co7, eo7⟩ := Kd.aX Gv.out; subst eo7) | (refine gL 58 5 Tryz.func58 #[.pointer (some ⟨g, 0, none⟩), .slice Ao7 az2.length co7] ?_; (with_reducible refine (fV.calls w0 ?gJ ?jf (cu ((Kd.au Gv.out).2.2)) ((Kd.au Gv.out).2.1) (oz (aI.own_ne HI0.out Gv.out (by decide))) A2.out).mono ?_); (case gJ => exact pX); (case jf => exact pY); rintro e w8 ⟨rfl, hi, hb, hk⟩; refine ⟨_, rfl, ?_⟩; replace KX := kc KX hk VN; replace Gv := ki Gv hk; replace HK := kt HK hk; replace HB := ak (hb); replace HI0 := ak (hi); clear hb; (try clear hk); (try clear hi)) | (refine SX 7 Kd.string 9 [.string (⟨#[]⟩ : ByteArray), .string (⟨#[120]⟩ : ByteArray), .string (⟨#[97, 32, 98]⟩ : ByteArray), .string (⟨#[104, 101, 108, 108, 111, 32, 116, 104, 101, 114, 101, 44, 32, 116, 104, 105, 115, 32, 105, 115, 32, 97, 32, 108, 111, 110, 103, 101, 114, 32, 118, 97, 108, 117, 101, 32, 116, 104, 97, 116, 32, 105, 115, 32, 98, 114, 111, 107, 101, 110]⟩ : ByteArray), .string (⟨#[97, 97, 97, 97, 97, 97, 97, 97, 97, 97, 97, 97, 97, 97, 97, 97, 97, 97, 97, 97, 97, 97, 97, 97, 97, 97, 97, 97, 97, 97, 97, 97, 97, 97, 97, 97, 97, 97, 97, 97, 97, 97, 97, 97, 97, 97, 97, 97, 97, 97, 97, 32, 98]⟩ : ByteArray), .string (⟨#[116, 119, 111, 32, 32, 115, 112, 97, 99, 101, 115, 32, 115, 116, 97, 121, 32, 32, 116, 111, 103, 101, 116, 104, 101, 114, 32, 105, 110, 32, 104, 101, 114, 101, 44, 32, 97, 110, 100, 32, 115, 111, 32, 100, 111, 32, 116, 104, 101, 115, 101, 32, 32, 111, 110, 101, 115]⟩ : ByteArray), .string (⟨#[97, 58, 98]⟩ : ByteArray), .string (⟨#[111, 110, 101, 32, 116, 119, 111, 32, 116, 104, 114, 101, 101, 32, 102, 111, 117, 114, 32, 102, 105, 118, 101, 32, 115, 105, 120, 32, 115, 101, 118, 101, 110, 32, 101, 105, 103, 104, 116, 32, 110, 105, 110, 101, 32, 116, 101, 110, 32, 101, 108, 101, 118, 101, 110]⟩ : ByteArray)] alj (dK.one (show Kd.M Kd.string _ _ _ (⟨#[]⟩ : ByteArray) [.string (⟨#[]⟩ : ByteArray)] from rfl) (dK.one (show Kd.M Kd.string _ _ _ (⟨#[120]⟩ : ByteArray) [.string (⟨#[120]⟩ : ByteArray)] from rfl) (dK.one (show Kd.M Kd.string _ _ _ (⟨#[97, 32, 98]⟩ : ByteArray) [.string (⟨#[97, 32, 98]⟩ : ByteArray)] from rfl) (dK.one (show Kd.M Kd.string _ _ _ (⟨#[104, 101, 108, 108, 111, 32, 116, 104, 101, 114, 101, 44, 32, 116, 104, 105, 115, 32, 105, 115, 32, 97, 32, 108, 111, 110, 103, 101, 114, 32, 118, 97, 108, 117, 101, 32, 116, 104, 97, 116, 32, 105, 115, 32, 98, 114, 111, 107, 101, 110]⟩ : ByteArray) [.string (⟨#[104, 101, 108, 108, 111, 32, 116, 104, 101, 114, 101, 44, 32, 116, 104, 105, 115, 32, 105, 115, 32, 97, 32, 108, 111, 110, 103, 101, 114, 32, 118, 97, 108, 117, 101, 32, 116, 104, 97, 116, 32, 105, 115, 32, 98, 114, 111, 107, 101, 110]⟩ : ByteArray)] from rfl) (dK.one (show Kd.M Kd.string _ _ _ (⟨#[97, 97, 97, 97, 97, 97, 97, 97, 97, 97, 97, 97, 97, 97, 97, 97, 97, 97, 97, 97, 97, 97, 97, 97, 97, 97, 97, 97, 97, 97, 97, 97, 97, 97, 97, 97, 97, 97, 97, 97, 97, 97, 97, 97, 97, 97, 97, 97, 97, 97, 97, 32, 98]⟩ : ByteArray) [.string (⟨#[97, 97, 97, 97, 97, 97, 97, 97, 97, 97, 97, 97, 97, 97, 97, 97, 97, 97, 97, 97, 97, 97, 97, 97, 97, 97, 97, 97, 97, 97, 97, 97, 97, 97, 97, 97, 97, 97, 97, 97, 97, 97, 97, 97, 97, 97, 97, 97, 97, 97, 97, 32, 98]⟩ : ByteArray)] from rfl) (dK.one (show Kd.M Kd.string _ _ _ (⟨#[116, 119, 111, 32, 32, 115, 112, 97, 99, 101, 115, 32, 115, 116, 97, 121, 32, 32, 116, 111, 103, 101, 116, 104, 101, 114, 32, 105, 110, 32, 104, 101, 114, 101, 44, 32, 97, 110, 100, 32, 115, 111, 32, 100, 111, 32, 116, 104, 101, 115, 101, 32, 32, 111, 110, 101, 115]⟩ : ByteArray) [.string (⟨#[116, 119, 111, 32, 32, 115, 112, 97, 99, 101, 115, 32, 115, 116, 97, 121, 32, 32, 116, 111, 103, 101, 116, 104, 101, 114, 32, 105, 110, 32, 104, 101, 114, 101, 44, 32, 97, 110, 100, 32, 115, 111, 32, 100, 111, 32, 116, 104, 101, 115, 101, 32, 32, 111, 110, 101, 115]⟩ : ByteArray)] from rfl) (dK.one (show Kd.M Kd.string _ _ _ (⟨#[97, 58, 98]⟩ : ByteArray) [.string (⟨#[97, 58, 98]⟩ : ByteArray)] from rfl) (dK.one (show Kd.M Kd.string _ _ _ (⟨#[111, 110, 101, 32, 116, 119, 111, 32, 116, 104, 114, 101, 101, 32, 102, 111, 117, 114, 32, 102, 105, 118, 101, 32, 115, 105, 120, 32, 115, 101, 118, 101, 110, 32, 101, 105, 103, 104, 116, 32, 110, 105, 110, 101, 32, 116, 101, 110, 32, 101, 108, 101, 118, 101, 110]⟩ : ByteArray) [.string (⟨#[111, 110, 101, 32, 116, 119, 111, 32, 116, 104, 114, 101, 101, 32, 102, 111, 117, 114, 32, 102, 105, 118, 101, 32, 115, 105, 120, 32, 115, 101, 118, 101, 110, 32, 101, 105, 103, 104, 116, 32, 110, 105, 110, 101, 32, 116, 101, 110, 32, 101, 108, 101, 118, 101, 110]⟩ : ByteArray)] from rfl) (dK.none _ _))))))))) ?_; intro aHJ w9 PE hb; have Ua := ak (Kd.aG (Kd.fK PE (Kd.jH (ur Gv.out))) (dR (w := w) (g := g) (row := none) (kh HK.out))); replace Gv := ak (Kd.fA (ur Gv.out) (Kd.eH PE) hb); replace KX := kb KX hb; replace HK := ak (aJ.trans (kh HK.out) (aJ.of_below hb g none) (.inl rfl)); replace HB := ak (iL pY hb); replace HI0 := ak (aI.below pX hb); clear hb PE; obtain ⟨pq, oK, NQ⟩ := Kd.aX Ua.out; subst NQ) | (refine gL 58 8 Tryz.func58 #[.pointer (some ⟨g, 0, none⟩), .slice pq az4.length oK] ?_; (with_reducible refine (fV.calls w0 ?gJ ?jf (cu ((Kd.au Ua.out).2.2)) ((Kd.au Ua.out).2.1) (oz (aI.own_ne HI0.out Ua.out (by decide))) A3.out).mono ?_); (case gJ => exact pX); (case jf => exact pY); rintro e w12 ⟨rfl, hi, hb, hk⟩; refine ⟨_, rfl, ?_⟩; replace KX := kc KX hk VN; replace Gv := ki Gv hk; replace Ua := ki Ua hk; replace HK := kt HK hk; replace HB := ak (hb); replace HI0 := ak (hi); clear hb; (try clear hk); (try clear hi); have arO := VN.out; have arP := aiM.out; have z14 := AX KX.out))
 refine bodyPost_ret (results_cell_row rfl _ _ auG 69 #[.string az3, .string az5] (0, 0) _ rfl bq Tryz.underlying69 rfl (by kernel_rfl)) rfl ?_
 exact ⟨er, pX, pY, kh HK.out⟩
def mD.l0 : Nat → List (gK) → Int → List Int → Int → Option ((List (gK)) × Int)
 | 0, _, _, _, _ => none
 | k + 1, x3, x4, x1000, ql => if x4 > 0 then ((wL.f k x1000 ql).bind fun afr => (if x3.length < 4398046511104 then (mD.l0 k (x3 ++ [(⟨afr.1, afr.2.1⟩ : gK)]) (wrap64 (x4 - 1)) x1000 afr.2.2) else (none))) else (some (x3, ql))
def mD.f (k : Nat) (fO : List Int) (kZ : Int) : Option ((List (gK)) × Int) := (kW.f k fO kZ (([2, 3, 1, 0, 4] : List Int))).bind fun alk => (mD.l0 k (([] : List (gK))) alk.1 fO alk.2)
theorem mD.calls {k g : Nat} {fO : List Int} {kZ r2 : Int} {r1 : List (gK)} {w : World} (w0 : World) (hI : aI w0 w g fO kZ) (hB : Below w0.heap.size w0 w) (h : mD.f k fO kZ = some (r1, r2)) :
  Calls Tryz.prog 144 #[.pointer (some ⟨g, 0, none⟩)] w fun e w' => ∃ rY : Value, e = .returned (rY) ∧ Kd.R pU 69 w' w.heap.size (fun _ => True) rY r1 ∧ aI w0 w' g fO r2 ∧ Below w0.heap.size w0 w' ∧ aJ w w' g none := by
 have HI0 := ak hI
 have HK := ak (aJ.refl w g none)
 have HL := ak hB.size
 clear hI
 have HW0 := ak hB.size
 have HB := ak hB
 clear hB
 unfold mD.f at h; have H := h
 clear h
 obtain ⟨aHK, alm⟩ := nm ([] : List (gK))
 rw [← alm.out] at H
 obtain ⟨az6, aln⟩ := nm ([2, 3, 1, 0, 4] : List Int)
 rw [← aln.out] at H
 replace H := bd H
 obtain ⟨⟨aHL, aHM⟩, A2, H⟩ := H
 (try dsimp only at H)
 have H' := ak H; clear H
 go_enter Tryz.func144, Tryz.ntmps144
 go_wp2_with (first | (refine F8 5 pU 69 alm ?_; intro aHN w3 TU hb; have X0 := ak (Kd.aG TU (dR (w := w) (g := g) (row := none) (kh HK.out))); replace HK := ak (aJ.trans (kh HK.out) (aJ.of_below hb g none) (.inl rfl)); replace HB := ak (iL pY hb); replace HI0 := ak (aI.below pX hb); clear hb TU) | (refine SX 7 (Kd.int .i64) 3 [.int .i64 2, .int .i64 3, .int .i64 1, .int .i64 0, .int .i64 4] aln (dK.one (show Kd.M (Kd.int .i64) _ _ _ 2 [.int .i64 2] from rfl) (dK.one (show Kd.M (Kd.int .i64) _ _ _ 3 [.int .i64 3] from rfl) (dK.one (show Kd.M (Kd.int .i64) _ _ _ 1 [.int .i64 1] from rfl) (dK.one (show Kd.M (Kd.int .i64) _ _ _ 0 [.int .i64 0] from rfl) (dK.one (show Kd.M (Kd.int .i64) _ _ _ 4 [.int .i64 4] from rfl) (dK.none _ _)))))) ?_; intro aHO w5 YI hb; have Ub := ak (Kd.aG YI (dR (w := w) (g := g) (row := none) (kh HK.out))); replace X0 := rb X0 hb; replace HK := ak (aJ.trans (kh HK.out) (aJ.of_below hb g none) (.inl rfl)); replace HB := ak (iL pY hb); replace HI0 := ak (aI.below pX hb); clear hb YI; obtain ⟨Ao7, co7, eo7⟩ := Kd.aX Ub.out; subst eo7) | (refine gL 97 8 Tryz.func97 #[.pointer (some ⟨g, 0, none⟩), .slice Ao7 az6.length co7] ?_; (with_reducible refine (kW.calls w0 ?gJ ?jf (cu ((Kd.au Ub.out).2.2)) ((Kd.au Ub.out).2.1) (oz (aI.own_ne HI0.out Ub.out (by decide))) A2.out).mono ?_); (case gJ => exact pX); (case jf => exact pY); rintro e w8 ⟨rfl, hi, hb, hk⟩; refine ⟨_, rfl, ?_⟩; replace X0 := ki X0 hk; replace Ub := ki Ub hk; replace HK := kt HK hk; replace HB := ak (hb); replace HI0 := ak (hi); clear hb; (try clear hk); (try clear hi)))
 go_loopg [3, 4] k (fun kq v3 v4 w' => ∃ (dZ : List (gK)) (fG : Int) (y9 : Int), v4 = .int .i64 fG ∧ ah (mD.l0 kq dZ fG fO y9 = some (r1, r2)) ∧ ah (kq ≤ k) ∧ ah (Kd.R pU 69 w' w.heap.size (fun _ => True) v3 dZ) ∧ ah (aI w0 w' g fO y9) ∧ ah (aJ w w' g none) ∧ ah (Below w0.heap.size w0 w'))
 case atStart => exact ⟨_, _, _, rs, H', ⟨Nat.le_refl _⟩, ⟨ur X0.out⟩, ⟨pX⟩, ⟨kh HK.out⟩, ⟨pY⟩⟩
 case round =>
  clear H'
  obtain ⟨dZ, fG, y9, rfl, HA, yB, qm, HI0, HK, HB⟩ := hrel
  cases gk with
  | zero => exact zz HA.out
  | succ k1 =>
   obtain ⟨H⟩ := HA
   simp only [mD.l0] at H
   replace H := sp H
   rcases H with ⟨c9, H⟩ | ⟨c9, H⟩
   ·
    have zu : decide (0 < fG) = true := decide_eq_true c9
    clear c9
    replace H := bd H
    obtain ⟨⟨ZA, aiN, aHP⟩, Xa, H⟩ := H
    (try dsimp only at H)
    replace H := nl H; obtain ⟨QV, H⟩ := H
    obtain ⟨aHQ, alo⟩ := nm (dZ ++ [(⟨ZA, aiN⟩ : gK)])
    rw [← alo.out] at H
    have H' := ak H; clear H
    go_wp2_with (first | (refine gL 168 15 Tryz.func168 #[.pointer (some ⟨g, 0, none⟩)] ?_; (with_reducible refine (wL.calls w0 ?gJ ?jf Xa.out).mono ?_); (case gJ => exact pX); (case jf => exact pY); rintro e w12 ⟨rfl, hi, hb, hk⟩; refine ⟨_, rfl, ?_⟩; replace qm := ki qm hk; replace HK := kt HK hk; replace HB := ak (hb); replace HI0 := ak (hi); clear hb; (try clear hk); (try clear hi)) | ((with_reducible refine dN (b := .append) (xs := #[.tmp 13, .tmp 16]) rfl ?_); at_builtin; refine Kd.oP pU w.heap.size rfl (.tmp 13) (.tmp 16) 25 69 (.agg #[(.string ⟨#[]⟩), (.string ⟨#[]⟩)]) 32 rfl Tryz.underlying25 xB rfl (by decide) (by omega) u3 dZ (⟨ZA, aiN⟩ : gK) [.string ZA, .string aiN] (fun _ => True) (fun _ => False) rfl rfl ?aP (fun _ hk => hk.elim) ?aF ?aO (Below.refl _ _) ?aS ?aL ?_; (case aP => exact uU _ _ _ (⟨ZA, aiN⟩ : gK)); (case aF => exact (fun _ _ => trivial)); (case aO => exact (ur qm.out)); (case aS => exact (dR (w := w) (g := g) (row := none) (kh HK.out))); (case aL => have := QV.out; omega); intro aHR w13 ho hb hg hat; rw [← alo.out] at ho; have auH := ak (ho); replace HB := ak (wW pY HL.out hb); replace HI0 := ak (aI.grown pX hg (aI.own_ne HI0.out qm.out (by decide))); replace HK := ak (aJ.trans (kh HK.out) (aJ.Ah hg g) (Kd.Hw qm.out)); clear ho hb hg hat qm))
    go_roundg k1
    case measure => exact kl
    case rel => exact ⟨_, _, _, rs, H', ⟨kl⟩, ⟨ur auH.out⟩, ⟨pX⟩, ⟨kh HK.out⟩, ⟨pY⟩⟩
   ·
    have zu : decide (0 < fG) = false := decide_eq_false c9
    clear c9
    obtain ⟨rfl, rfl⟩ := s2 H
    go_wp2
    go_ret
    exact ⟨_, er, ur qm.out, pX, pY, kh HK.out⟩
end Go.Proofs.YtncdadcmghglkaaGreatDoor.PFnPartValid
