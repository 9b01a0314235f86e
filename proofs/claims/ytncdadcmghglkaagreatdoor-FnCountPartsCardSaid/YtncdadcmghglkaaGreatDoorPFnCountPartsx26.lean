/- Printed walks; conditions: those in each statement. -/
import Derived.Test.YtncdadcmghglkaaGreatDoorVFnCountPartsQt
import Derived.Test.YtncdadcmghglkaaGreatDoorVFnCountPartsYt
import Derived.Test.YtncdadcmghglkaaGreatDoorPFnCountPartsx0
import Derived.Test.YtncdadcmghglkaaGreatDoorPFnCountPartsx20
import Derived.Test.YtncdadcmghglkaaGreatDoorPFnCountPartsx25
-- short
-- dense
-- sq
-- sq2
namespace Go.Proofs.YtncdadcmghglkaaGreatDoor.PFnCountParts
open Go.RowKit Go.Proofs.YtncdadcmghglkaaGreatDoor.X Go.Proofs.YtncdadcmghglkaaGreatDoorW.bI Go.Proofs.YtncdadcmghglkaaGreatDoorW.gI Go.Proofs.YtncdadcmghglkaaGreatDoorW.iL
attribute [local go_sem] kN kP mF mG jB jC kQ kR   -- for this text's walks alone
set_option linter.unusedVariables false
set_option maxHeartbeats 8000000
set_option maxRecDepth 100000
set_option linter.unusedSimpArgs false
def iC.l0 : Nat → Int → List Int → Int → List (gY) → List ByteArray → Option ((List (gY)) × List ByteArray × (List (nG)) × Int)
 | 0, _, _, _, _, _ => none
 | k + 1, x6, x1000, oP, aal, Ue => if x6 > 0 then ((fH.f k x1000 oP (([(⟨#[97]⟩ : ByteArray), (⟨#[]⟩ : ByteArray), (⟨#[116, 101, 120, 116, 32, 111, 102, 32, 97, 32, 108, 105, 110, 101]⟩ : ByteArray), (⟨#[45, 45, 98, 49]⟩ : ByteArray), (⟨#[45, 45, 120]⟩ : ByteArray)] : List ByteArray))).bind fun ajZ => (if Ue.length < 8796093022208 then (iC.l0 k (wrap64 (x6 - 1)) x1000 ajZ.2 aal (Ue ++ [ajZ.1])) else (none))) else (some (aal, Ue, ([] : List (nG)), oP))
def iC.f (k : Nat) (eX : List Int) (kK : Int) : Option ((List (gY)) × List ByteArray × (List (nG)) × Int) := (cZ.f k eX kK 2).bind fun ad4 => (if ad4.1 = 0 then ((fH.f k eX ad4.2 (([(⟨#[104, 101, 108, 108, 111]⟩ : ByteArray), (⟨#[90, 111, 195, 171]⟩ : ByteArray), (⟨#[]⟩ : ByteArray)] : List ByteArray))).bind fun aj0 => ((iK.f k eX aj0.2).bind fun aj1 => ((su.f k aj0.1 aj1.1).bind fun ad5 => (some (ad5.1, ad5.2.1, ad5.2.2.1, aj1.2))))) else ((lS.f k eX ad4.2).bind fun aj2 => ((kG.f k eX aj2.2 (([1, 2, 0, 3] : List Int))).bind fun aj3 => (iC.l0 k aj3.1 eX aj3.2 aj2.1 ([] : List ByteArray)))))
def iC.T8 : Bool × List (List Nat × List Nat) := (true, [([], []), ([0], [0]), ([], []), ([], []), ([2, 3], [2, 3]), ([4], [4]), ([1, 5, 4], [1, 5]), ([0, 1, 2, 3, 4, 5, 6], []), ([7, 6, 6, 0, 1, 2, 3, 4, 5, 6], [6, 7])])
def iC.B8 : List Nat := [0, 1, 0, 0, 12, 28, 63, 127, 255]
theorem iC.abC : sJ .any (opsOf Tryz.f98 8) = iC.T8 := by kernel_rfl
theorem iC.Rj : nV iC.T8.2 iC.B8 = true := by kernel_rfl
theorem iC.calls {k g : Nat} {eX : List Int} {kK r4 : Int} {r1 : List (gY)} {r2 : List ByteArray} {r3 : List (nG)} {w : World} (w0 : World) (hI : aK w0 w g eX kK) (hB : Below w0.heap.size w0 w) (h : iC.f k eX kK = some (r1, r2, r3, r4)) :
  Calls Tryz.prog 98 #[.pointer (some ⟨g, 0, none⟩)] w fun e w' => ∃ qj Dq EK : Value, e = .returned (.agg #[qj, Dq, EK]) ∧ Kd.R qJ 69 w' w.heap.size (fun _ => True) qj r1 ∧ Kd.R Kd.string 9 w' w.heap.size (fun _ => True) Dq r2 ∧ Kd.R k28 28 w' w.heap.size (fun k_ => some k_ ≠ (qj : Value).ownBlock ∧ some k_ ≠ (Dq : Value).ownBlock) EK r3 ∧ aK w0 w' g eX r4 ∧ Below w0.heap.size w0 w' ∧ aJ w w' g none := by
 have CG := Tryz.underlying28
 have HI0 := ak hI
 have HK := ak (aJ.refl w g none)
 have HL := ak hB.size
 clear hI
 have HW0 := ak hB.size
 have HB := ak hB
 clear hB
 unfold iC.f at h; have H := h
 clear h
 replace H := bd H
 obtain ⟨⟨aGl, aGm⟩, A2, H⟩ := H
 (try dsimp only at H)
 replace H := sq H
 rcases H with ⟨iQ, zZ, H⟩ | ⟨c3, iQ, zZ, H⟩
 ·
  obtain ⟨ayx, aj6⟩ := nm ([(⟨#[104, 101, 108, 108, 111]⟩ : ByteArray), (⟨#[90, 111, 195, 171]⟩ : ByteArray), (⟨#[]⟩ : ByteArray)] : List ByteArray)
  rw [← aj6.out] at H
  replace H := bd H
  obtain ⟨⟨ayy, aGn⟩, A4, H⟩ := H
  (try dsimp only at H)
  replace H := bd H
  obtain ⟨⟨ayz, aGo⟩, A5, H⟩ := H
  (try dsimp only at H)
  replace H := bd H
  obtain ⟨⟨ayA, ayB, ayC, aGp⟩, A6, H⟩ := H
  (try dsimp only at H)
  obtain ⟨rfl, rfl, rfl, rfl⟩ := s4 H
  go_enter Tryz.func98, Tryz.ntmps98
  go_wp2_with (first | (refine bS HI0 HK HB HW0 2 #[.slice none 0 0, .slice none 0 0, .slice none 0 0] 28 ?_; clear HI0 HK HB; intro Rx w7 ng asH asI Uf yI hg hb HI0 HK HB; clear hb hg) | (refine gL 57 8 Tryz.func57 #[.pointer (some ⟨g, 0, none⟩), .int .i64 2] ?_; (with_reducible refine (cZ.calls w0 ?fG ?jc A2.out).mono ?_); (case fG => exact oW); (case jc => exact oZ); rintro e w8 ⟨rfl, hi, hb, hk⟩; refine ⟨_, rfl, ?_⟩; replace ng := kc ng hk yI; replace HK := kt HK hk; replace HB := ak (hb); replace HI0 := ak (hi); clear hb; (try clear hk); (try clear hi)) | (refine QC 12 Kd.string 9 [.string (⟨#[104, 101, 108, 108, 111]⟩ : ByteArray), .string (⟨#[90, 111, 195, 171]⟩ : ByteArray), .string (⟨#[]⟩ : ByteArray)] aj6 (dD.one (show Kd.M Kd.string _ _ _ (⟨#[104, 101, 108, 108, 111]⟩ : ByteArray) [.string (⟨#[104, 101, 108, 108, 111]⟩ : ByteArray)] from rfl) (dD.one (show Kd.M Kd.string _ _ _ (⟨#[90, 111, 195, 171]⟩ : ByteArray) [.string (⟨#[90, 111, 195, 171]⟩ : ByteArray)] from rfl) (dD.one (show Kd.M Kd.string _ _ _ (⟨#[]⟩ : ByteArray) [.string (⟨#[]⟩ : ByteArray)] from rfl) (dD.none _ _)))) ?_; intro aGq w9 NM hb; have BD := ak (Kd.aA NM (dJ (w := w) (g := g) (row := none) (kh HK.out))); replace ng := kb ng hb; replace HK := ak (aJ.trans (kh HK.out) (aJ.of_below hb g none) (.inl rfl)); replace HB := ak (iE oZ hb); replace HI0 := ak (aK.below oW hb); clear hb NM; obtain ⟨CU, Ad, O5⟩ := Kd.aN BD.out; subst O5) | (refine gL 58 13 Tryz.func58 #[.pointer (some ⟨g, 0, none⟩), .slice CU ayx.length Ad] ?_; (with_reducible refine (fH.calls w0 ?fG ?jc (cu ((Kd.au BD.out).2.2)) ((Kd.au BD.out).2.1) (oq (aK.own_ne HI0.out BD.out (by decide))) A4.out).mono ?_); (case fG => exact oW); (case jc => exact oZ); rintro e w12 ⟨rfl, hi, hb, hk⟩; refine ⟨_, rfl, ?_⟩; replace ng := kc ng hk yI; replace BD := ki BD hk; replace HK := kt HK hk; replace HB := ak (hb); replace HI0 := ak (hi); clear hb; (try clear hk); (try clear hi)) | (refine gL 143 15 Tryz.func143 #[.pointer (some ⟨g, 0, none⟩)] ?_; (with_reducible refine (iK.calls w0 ?fG ?jc A5.out).mono ?_); (case fG => exact oW); (case jc => exact oZ); rintro e w13 ⟨rfl, hi, hb, hk⟩; refine ⟨_, rfl, ?_⟩; replace ng := kc ng hk yI; replace BD := ki BD hk; replace HK := kt HK hk; replace HB := ak (hb); replace HI0 := ak (hi); clear hb; (try clear hk); (try clear hi)) | (refine gL 142 16 Tryz.func142 #[.string ayy, .string ayz] ?_; (with_reducible refine (su.calls A6.out).mono ?_); rintro e Q8 ⟨aGr, aGs, aGt, rfl, ho0, ho1, ho2, hb⟩; refine ⟨_, rfl, ?_⟩; have ad6 := ak (Kd.aA ho0 (dJ (w := w) (g := g) (row := none) (kh HK.out))); have ad7 := ak (Kd.aA (Kd.gU ho1 (Kd.kX (ur BD.out))) (dJ (w := w) (g := g) (row := none) (kh HK.out))); have ad8 := ak (Kd.aA (Kd.nP (Kd.gU ho2 (Kd.kX (ur BD.out))) (g := Rx) (o := .cells #[.slice none 0 0, .slice none 0 0, .slice none 0 0] 28 (0, 0)) (ub ng.out)) (dJ (w := w) (g := g) (row := none) (kh HK.out))); replace BD := ak (Kd.fV (ur BD.out) (Kd.fQ ho1) hb); replace ng := kb ng hb; replace HK := ak (aJ.trans (kh HK.out) (aJ.of_below hb g none) (.inl rfl)); replace HB := ak (iE oZ hb); replace HI0 := ak (aK.below oW hb); clear hb; (try clear ho0); (try clear ho1); (try clear ho2)) | (refine bS HI0 HK HB HW0 3 #[.slice none 0 0, .slice none 0 0, .slice none 0 0] 28 ?_; clear HI0 HK HB; intro asJ w15 asK aBF aBG ahl ahm hg hb HI0 HK HB; have abR := AZ ng hg; have abS := A_ ng hg; replace BD := rb BD hb; replace ad6 := rb ad6 hb; replace ad7 := rb ad7 hb; replace ad8 := ak (Kd.nO (Kd.uf (ur ad8.out) asJ (Nat.le_of_eq hg.symm)) hb); replace ng := kb ng hb; clear hb hg; obtain ⟨VI, VJ, TV⟩ := Kd.aN ad6.out; subst TV; have aj7 := abS.out; have aj8 := abR.out; have asL := ahm.out; have asM := ahl.out; have z19 := jW asK.out; obtain ⟨Px, Py, XI⟩ := Kd.aN ad7.out; subst XI; obtain ⟨ND, NG, Xa⟩ := Kd.aN ad8.out; subst Xa; have aBH := yI.out; have aBI := Uf.out; have z23 := jW ng.out))
  refine bodyPost_ret (results_cell_row rfl _ _ Rx 28 #[.slice VI ayA.length VJ, .slice Px ayB.length Py, .slice ND ayC.length NG] (0, 0) _ rfl bq Tryz.underlying28 rfl (by kernel_rfl)) rfl ?_
  exact ⟨_, _, _, er, rr, rr, rr, oW, oZ, kh HK.out⟩
 ·
  replace H := bd H
  obtain ⟨⟨Ug, ayD⟩, XM, H⟩ := H
  (try dsimp only at H)
  obtain ⟨ayE, aj9⟩ := nm ([1, 2, 0, 3] : List Int)
  rw [← aj9.out] at H
  replace H := bd H
  obtain ⟨⟨aGu, aGv⟩, A25, H⟩ := H
  (try dsimp only at H)
  have H' := ak H; clear H
  go_enter Tryz.func98, Tryz.ntmps98
  go_wp2_with (first | (refine bS HI0 HK HB HW0 2 #[.slice none 0 0, .slice none 0 0, .slice none 0 0] 28 ?_; clear HI0 HK HB; intro Rx w26 ng asH asI Uf yI hg hb HI0 HK HB; clear hb hg) | (refine gL 57 8 Tryz.func57 #[.pointer (some ⟨g, 0, none⟩), .int .i64 2] ?_; (with_reducible refine (cZ.calls w0 ?fG ?jc A2.out).mono ?_); (case fG => exact oW); (case jc => exact oZ); rintro e w27 ⟨rfl, hi, hb, hk⟩; refine ⟨_, rfl, ?_⟩; replace ng := kc ng hk yI; replace HK := kt HK hk; replace HB := ak (hb); replace HI0 := ak (hi); clear hb; (try clear hk); (try clear hi)) | (refine gL 144 21 Tryz.func144 #[.pointer (some ⟨g, 0, none⟩)] ?_; (with_reducible refine (lS.calls w0 ?fG ?jc XM.out).mono ?_); (case fG => exact oW); (case jc => exact oZ); rintro e w28 ⟨aGw, rfl, ho0, hi, hb, hk⟩; refine ⟨_, rfl, ?_⟩; have M_ := ak (Kd.aA ho0 (dJ (w := w) (g := g) (row := none) (kh HK.out))); replace ng := kc ng hk yI; replace HK := kt HK hk; replace HB := ak (hb); replace HI0 := ak (hi); clear hb; (try clear hk); (try clear hi); (try clear ho0); obtain ⟨Uh, Ui, ahn⟩ := Kd.aN M_.out; subst ahn) | (refine bS HI0 HK HB HW0 5 #[.slice none 0 0, .slice none 0 0, .slice none 0 0] 28 ?_; clear HI0 HK HB; intro JI w30 sS aBJ aBK aam Oq hg hb HI0 HK HB; have Lm := AZ ng hg; have Lp := A_ ng hg; replace M_ := rb M_ hb; replace ng := kb ng hb; clear hb hg; have aBL := Lp.out; have aBM := Lm.out; have aj_ := Oq.out; have akb := aam.out; have z33 := jW sS.out) | (refine QC 24 (Kd.int .i64) 3 [.int .i64 1, .int .i64 2, .int .i64 0, .int .i64 3] aj9 (dD.one (show Kd.M (Kd.int .i64) _ _ _ 1 [.int .i64 1] from rfl) (dD.one (show Kd.M (Kd.int .i64) _ _ _ 2 [.int .i64 2] from rfl) (dD.one (show Kd.M (Kd.int .i64) _ _ _ 0 [.int .i64 0] from rfl) (dD.one (show Kd.M (Kd.int .i64) _ _ _ 3 [.int .i64 3] from rfl) (dD.none _ _))))) ?_; intro aGx w34 asN hb; have Ry := ak (Kd.aA asN (dJ (w := w) (g := g) (row := none) (kh HK.out))); replace M_ := rg M_ hb; replace ng := kp ng #[.slice none 0 0, .slice none 0 0, .slice none 0 0] hb; replace sS := kp sS #[.slice Uh Ug.length Ui, .slice none 0 0, .slice none 0 0] hb; replace HK := ak (aJ.trans (kh HK.out) (aJ.of_below hb g none) (.inl rfl)); replace HB := ak (iE oZ hb); replace HI0 := ak (aK.below (show aK w0 (((w30.setCell ⟨JI, 0, none⟩ (.slice Uh Ug.length Ui)).setCell ⟨JI, 1, none⟩ (.slice none 0 0)).setCell ⟨JI, 2, none⟩ (.slice none 0 0)) g eX ayD from oW) hb); clear hb asN; obtain ⟨XB, VG, adx⟩ := Kd.aN Ry.out; subst adx) | (refine gL 97 25 Tryz.func97 #[.pointer (some ⟨g, 0, none⟩), .slice XB ayE.length VG] ?_; (with_reducible refine (kG.calls w0 ?fG ?jc (cu ((Kd.au Ry.out).2.2)) ((Kd.au Ry.out).2.1) (oq (aK.own_ne HI0.out Ry.out (by decide))) A25.out).mono ?_); (case fG => exact oW); (case jc => exact oZ); rintro e w37 ⟨rfl, hi, hb, hk⟩; refine ⟨_, rfl, ?_⟩; replace ng := kc ng hk yI; replace M_ := ki M_ hk; replace sS := kc sS hk Oq; replace Ry := ki Ry hk; replace HK := kt HK hk; replace HB := ak (hb); replace HI0 := ak (hi); clear hb; (try clear hk); (try clear hi)))
  go_loopg [6] k (fun kq v6 w' => ∃ (jH : Int) (xK : Int) (zV : List ByteArray) (DF : Value), v6 = .int .i64 jH ∧ ah (iC.l0 kq jH eX xK Ug zV = some (r1, r2, r3, r4)) ∧ ah (kq ≤ k) ∧ ah (Kd.R qJ 69 w' w.heap.size (fun _ => True) (.slice Uh Ug.length Ui) Ug) ∧ ah (Kd.R Kd.string 9 w' w.heap.size (fun _ => True) DF zV) ∧ ah (w'.heap[Rx]? = some (.cells #[(.slice none 0 0), (.slice none 0 0), (.slice none 0 0)] 28 (0, 0))) ∧ ah (w'.heap[JI]? = some (.cells #[(.slice Uh Ug.length Ui), DF, (.slice none 0 0)] 28 (0, 0))) ∧ ah (aK w0 w' g eX xK) ∧ ah (aJ w w' g none) ∧ ah (Below w0.heap.size w0 w'))
  case atStart => exact ⟨_, _, _, _, rs, H', ⟨Nat.le_refl _⟩, ⟨ur M_.out⟩, ⟨nx⟩, ⟨ub ng.out⟩, ⟨ub sS.out⟩, ⟨oW⟩, ⟨kh HK.out⟩, ⟨oZ⟩⟩
  case round =>
   clear H'
   try clear c3
   try clear iQ
   try clear zZ
   obtain ⟨jH, xK, zV, DF, rfl, HA, xu, uw, ou, ng, sS, HI0, HK, HB⟩ := hrel
   cases gk with
   | zero => exact zz HA.out
   | succ k1 =>
    obtain ⟨H⟩ := HA
    simp only [iC.l0] at H
    replace H := sp H
    rcases H with ⟨WX, H⟩ | ⟨WX, H⟩
    ·
     have aaf : decide (0 < jH) = true := decide_eq_true WX
     clear WX
     obtain ⟨asO, ad9⟩ := nm ([(⟨#[97]⟩ : ByteArray), (⟨#[]⟩ : ByteArray), (⟨#[116, 101, 120, 116, 32, 111, 102, 32, 97, 32, 108, 105, 110, 101]⟩ : ByteArray), (⟨#[45, 45, 98, 49]⟩ : ByteArray), (⟨#[45, 45, 120]⟩ : ByteArray)] : List ByteArray)
     rw [← ad9.out] at H
     replace H := bd H
     obtain ⟨⟨am8, aGy⟩, A39, H⟩ := H
     (try dsimp only at H)
     replace H := nl H; obtain ⟨Vt, H⟩ := H
     obtain ⟨aGz, akc⟩ := nm (zV ++ [am8])
     rw [← akc.out] at H
     have H' := ak H; clear H
     try go_wp2
     replace uw := ak (Kd.mD uw.out)
     replace ou := ak (Kd.mD ou.out)
     replace ng := ak (bn ng.out)
     replace sS := ak (bn sS.out)
     replace HI0 := ak (aK.drew HI0.out)
     replace HK := ak (yt HK.out)
     replace HB := ak (iH HB.out)
     refine Ci (n := 9) (S := fun w' => w'.cell? ⟨JI, 0, none⟩ = some (.slice Uh Ug.length Ui) ∧ w'.cell? ⟨JI, 1, none⟩ = some (DF) ∧ w'.cell? ⟨JI, 2, none⟩ = some (.slice none 0 0)) (ds := [8]) #[false, false, false, false, false, false, false, false, false] (by kernel_rfl) rfl rfl ⟨(aG sS.out 0).trans rfl, (aG sS.out 1).trans rfl, (aG sS.out 2).trans rfl⟩ (fun hHeld => ?_); refine uq iC.abC iC.Rj (fun t_ Xp => ?_)
     generalize wr.drew = w41 at uw ou ng sS HI0 HK HB hHeld ⊢
     refine pl 0 ?_
     refine pl 2 ?_
     refine tk 1 ?_
     refine o1 3 (fun K hK => ?_)
     refine Kd.qM Kd.string _ 9 ?hg (N := 33) ?hd (xs := ([(⟨#[97]⟩ : ByteArray), (⟨#[]⟩ : ByteArray), (⟨#[116, 101, 120, 116, 32, 111, 102, 32, 97, 32, 108, 105, 110, 101]⟩ : ByteArray), (⟨#[45, 45, 98, 49]⟩ : ByteArray), (⟨#[45, 45, 120]⟩ : ByteArray)] : List ByteArray)) (inner := [.string (⟨#[97]⟩ : ByteArray), .string (⟨#[]⟩ : ByteArray), .string (⟨#[116, 101, 120, 116, 32, 111, 102, 32, 97, 32, 108, 105, 110, 101]⟩ : ByteArray), .string (⟨#[45, 45, 98, 49]⟩ : ByteArray), .string (⟨#[45, 45, 120]⟩ : ByteArray)]) (ok := fun _ => True) (vX := fun _ => True) ?hr ?hp (fun _ hk => hk) trivial (Below.refl _ _) (Nat.le_refl _) (by simp) ?_; (case hd => rfl); (case hg => rfl); (case hr => first | (go_simp; done) | (go_simp; rfl)); (case hp => exact (dD.one (show Kd.M Kd.string _ _ _ (⟨#[97]⟩ : ByteArray) [.string (⟨#[97]⟩ : ByteArray)] from rfl) (dD.one (show Kd.M Kd.string _ _ _ (⟨#[]⟩ : ByteArray) [.string (⟨#[]⟩ : ByteArray)] from rfl) (dD.one (show Kd.M Kd.string _ _ _ (⟨#[116, 101, 120, 116, 32, 111, 102, 32, 97, 32, 108, 105, 110, 101]⟩ : ByteArray) [.string (⟨#[116, 101, 120, 116, 32, 111, 102, 32, 97, 32, 108, 105, 110, 101]⟩ : ByteArray)] from rfl) (dD.one (show Kd.M Kd.string _ _ _ (⟨#[45, 45, 98, 49]⟩ : ByteArray) [.string (⟨#[45, 45, 98, 49]⟩ : ByteArray)] from rfl) (dD.one (show Kd.M Kd.string _ _ _ (⟨#[45, 45, 120]⟩ : ByteArray) [.string (⟨#[45, 45, 120]⟩ : ByteArray)] from rfl) (dD.none _ _)))))))
     intro aGA w42 QH hb Bl wo
     clear Bl wo
     (first | rw [← ad9.out] at QH | (simp only [Int.reduceToNat] at QH; rw [← ad9.out] at QH))
     have G9 := ak (Kd.aA (Kd.gU QH (Kd.kX (ur ou.out))) (dJ (w := w) (g := g) (row := none) (kh HK.out)))
     replace uw := rb uw hb
     replace ou := ak (Kd.fV (ur ou.out) (Kd.fQ QH) hb)
     replace ng := kb ng hb
     replace sS := kb sS hb
     replace HK := ak (aJ.trans (kh HK.out) (aJ.of_below hb g none) (.inl rfl))
     replace HB := ak (iE oZ hb)
     replace HI0 := ak (aK.below oW hb)
     clear hb QH
     obtain ⟨acY, acZ, abx⟩ := Kd.aN G9.out
     (first | subst abx | (injection abx with qR wZ qU; have xg := qR.symm; have xk := qU.symm; clear qR wZ qU; subst xg; subst xk))
     refine hK.out _ _ sx (fun hHeld => ?_)
     clear hK K
     refine nrm ?_
     refine o1 4 (fun K hK => ?_)
     refine yR Tryz.func58 (by kernel_rfl) rfl #[.pointer (some ⟨g, 0, none⟩), .slice acY asO.length acZ] (by rfl) rfl rfl ma ?_
     with_reducible refine (fH.calls w0 ?fG ?jc ?ug ?CZ ?uh A39.out).mono ?_
     (case fG => exact oW)
     (case jc => exact oZ)
     (case ug => repeat (first | exact (Kd.au G9.out).2.2 | (with_reducible refine Kd.ql ?_ _) | (with_reducible refine Kd.qm ?_ _) | (with_reducible refine Kd.tJ ?_)))
     (case CZ => exact (Kd.au G9.out).2.1)
     (case uh => exact oq (aK.own_ne HI0.out G9.out (by decide)))
     rintro e w45 ⟨rfl, hi, hb, hk⟩
     refine ⟨_, rfl, ?_⟩
     replace uw := ki uw hk
     replace ou := ki ou hk
     replace ng := kc ng hk yI
     replace sS := kc sS hk Oq
     replace G9 := ki G9 hk
     replace HK := kt HK hk
     replace HB := ak (hb)
     replace HI0 := ak (hi)
     try clear hb
     try clear hk
     try clear hi
     refine hK.out _ _ sx (fun hHeld => ?_)
     clear hK K
     refine nrm ?_
     refine o1 5 (fun K hK => ?_)
     refine Cj (w1 := ?_) (v := ?_) (by rfl) rfl ?_ ?_
     rotate_left 2
     ·
      go_simp
      constructor
      ·
       rfl
      ·
       rfl
     refine hK.out _ _ ⟨(aG (aX sS.out _) 0).trans rfl, (aG (aX sS.out _) 1).trans rfl, (aG (aX sS.out _) 2).trans rfl⟩ (fun hHeld => ?_)
     clear hK K
     refine nrm ?_
     refine o1 6 (fun K hK => ?_)
     refine Kd.nU Kd.string w.heap.size (by rfl) (.tmp 31) (.tmp 35) 23 9 (.string ⟨#[]⟩) 16 rfl Tryz.underlying23 info9 rfl (by decide) (by omega) DF zV am8 [.string am8] (fun k_ => some k_ ≠ (.slice acY asO.length acZ : Value).ownBlock) (fun _ => False) rfl rfl ?aP (fun _ hk => hk.elim) ?aF ?aO (Below.refl _ _) ?aS ?aL ?_
     (case aP => exact rfl)
     (case aF => exact (fun k_ hk => Kd.fresh' (Kd.kX (ur G9.out)) k_ hk))
     (case aO => exact (ur (Kd.aZ ou.out (fun _ hk => hk.2))))
     (case aS => exact (dJ (w := w) (g := g) (row := none) (kh HK.out)))
     (case aL => have := Vt.out; omega)
     intro aGB w46 ho hb hg hat
     rw [← akc.out] at ho
     have yP := ak (Kd.qo (ur uw.out) (Kd.kU (ur ou.out)) (by decide) hg)
     have yQ := ak (dw (g := Rx) (o := .cells #[.slice none 0 0, .slice none 0 0, .slice none 0 0] 28 (0, 0)) (ub ng.out) hg (Kd.oQ ou.out ng.out (by decide)))
     have zA := ak (dw (g := JI) (o := .cells #[.slice Uh Ug.length Ui, DF, .slice none 0 0] 28 (0, 0)) (ub sS.out) hg (Kd.oQ ou.out sS.out (by decide)))
     have CS := ak (aK.grown oW hg (aK.own_ne HI0.out ou.out (by decide)))
     have GY := ak (Kd.zJ (ok := (fun _ => True)) (ur G9.out) hg hat)
     have JE := ak (vJ oZ HL.out hb)
     have MX := ak (aJ.trans (kh HK.out) (aJ.yT hg g) (Kd.F9 ou.out))
     have Ro := ak (ho)
     clear uw ng sS HI0 G9 HB HK ou
     have uw := yP
     have ng := yQ
     have sS := zA
     have HI0 := CS
     have G9 := GY
     have HB := JE
     have HK := MX
     have asP := Ro
     clear yP yQ zA CS GY JE MX Ro ho hb hg hat
     obtain ⟨Vf, Tj, aby⟩ := Kd.aN asP.out
     (first | subst aby | (injection aby with qR wZ qU; have xg := qR.symm; have xk := qU.symm; clear qR wZ qU; subst xg; subst xk))
     refine hK.out _ _ sx (fun hHeld => ?_)
     clear hK K
     refine nrm ?_
     refine pl 7 ?_
     refine GX (i := 8) (N := none) #[true, true, true, true, true, true, true, true, true] rfl rfl (oL t_.out (by kernel_rfl)) (by decide) (fun K hK => ?_)
     have aGC : w46.cell? ⟨JI, 1, none⟩ = some (DF) := (aG sS.out 1).trans rfl
     have aBN := iq sS.out 1
     have av9 := Lm.out
     have av_ := Lp.out
     refine GZ (w1 := ?_) (by rfl) rfl ?_ ?_
     rotate_left
     ·
      go_simp
      rfl
     refine hK.out _ _ ?_
     clear hK K
     refine G5 (yH t_.out (by kernel_rfl)) ?_
     try go_wp2
     go_roundg k1
     case measure => exact kl
     case rel => exact ⟨_, _, _, _, rs, H', ⟨kl⟩, ⟨rr⟩, ⟨rr⟩, ⟨bq⟩, ⟨bq⟩, ⟨oW⟩, ⟨kh HK.out⟩, ⟨oZ⟩⟩
    ·
     have aaf : decide (0 < jH) = false := decide_eq_false WX
     clear WX
     obtain ⟨rfl, rfl, rfl, rfl⟩ := s4 H
     have aBO := Lp.out
     have aBP := Lm.out
     have aBQ := Oq.out
     have aBR := aam.out
     have z51 := jW sS.out
     have aBS := yI.out
     have aBT := Uf.out
     have z53 := jW ng.out
     obtain ⟨ayF, ayG, ayH⟩ := Kd.aN ou.out
     subst ayH
     go_wp2
     refine bodyPost_ret (results_cell_row rfl _ _ Rx 28 #[.slice Uh Ug.length Ui, .slice ayF zV.length ayG, .slice none 0 0] (0, 0) _ rfl bq Tryz.underlying28 rfl (by kernel_rfl)) rfl ?_
     exact ⟨_, _, _, er, rr, rr, nx, oW, oZ, kh HK.out⟩
mutual
def dR.j0 : Nat → Int → Bool → List Int → Int → Option ((List (gY)) × List ByteArray × (List (nG)) × Int)
 | 0, _, _, _, _ => none
 | k + 1, x1, Lj, x1000, oP => if Lj = true then ((iC.f k x1000 oP).bind fun aan => (some (aan.1, aan.2.1, aan.2.2.1, aan.2.2.2))) else ((fH.f k x1000 oP (([(⟨#[109, 117, 108, 116, 105, 112, 97, 114, 116, 47, 109, 105, 120, 101, 100, 59, 32, 98, 111, 117, 110, 100, 97, 114, 121, 61, 98, 48]⟩ : ByteArray), (⟨#[77, 117, 108, 116, 105, 112, 97, 114, 116, 47, 97, 108, 116, 101, 114, 110, 97, 116, 105, 118, 101, 59, 32, 66, 111, 117, 110, 100, 97, 114, 121, 61, 98, 50]⟩ : ByteArray), (⟨#[109, 117, 108, 116, 105, 112, 97, 114, 116, 47, 109, 105, 120, 101, 100, 59, 32, 98, 111, 117, 110, 100, 97, 114, 121, 61, 120, 121, 122]⟩ : ByteArray)] : List ByteArray))).bind fun akd => ((kG.f k x1000 akd.2 (([2, 1, 3] : List Int))).bind fun ake => (dR.l0 k x1 ake.1 x1000 ake.2 (([(⟨(⟨#[83, 117, 98, 106, 101, 99, 116]⟩ : ByteArray), (⟨#[109, 97, 110, 121]⟩ : ByteArray)⟩ : gY), (⟨(⟨#[67, 111, 110, 116, 101, 110, 116, 45, 84, 121, 112, 101]⟩ : ByteArray), akd.1⟩ : gY)] : List (gY))) ([] : List (nG)))))
def dR.l0 : Nat → Int → Int → List Int → Int → List (gY) → List (nG) → Option ((List (gY)) × List ByteArray × (List (nG)) × Int)
 | 0, _, _, _, _, _, _ => none
 | k + 1, x1, x6, x1000, oP, aao, Uj => if x6 > 0 then ((dR.f k x1000 oP (wrap64 (x1 - 1))).bind fun aap => (if Uj.length < 1954687338268 then (dR.l0 k x1 (wrap64 (x6 - 1)) x1000 aap.2.2.2 aao (Uj ++ [(⟨aap.1, aap.2.1, aap.2.2.1⟩ : nG)])) else (none))) else (some (aao, ([] : List ByteArray), Uj, oP))
def dR.f : Nat → List Int → Int → Int → Option ((List (gY)) × List ByteArray × (List (nG)) × Int)
 | 0, _, _, _ => none
 | k + 1, eX, kK, a1 => if a1 < 2 then (dR.j0 k a1 true eX kK) else ((cZ.f k eX kK 2).bind fun akf => (dR.j0 k a1 (akf.1 == 0) eX akf.2))
end
def dR.T7 : Bool × List (List Nat × List Nat) := (true, [([], []), ([0], [0]), ([], []), ([], []), ([3], [3]), ([2, 4], [2, 4]), ([5], [5]), ([1, 6, 5], [1, 6]), ([0, 1, 2, 3, 4, 5, 6, 7], []), ([8, 7, 7, 0, 1, 2, 3, 4, 5, 6, 7], [7, 8])])
def dR.B7 : List Nat := [0, 1, 0, 0, 8, 28, 60, 127, 255, 511]
theorem dR.aos : sJ .any (opsOf Tryz.f56 7) = dR.T7 := by kernel_rfl
theorem dR.aik : nV dR.T7.2 dR.B7 = true := by kernel_rfl
theorem dR.calls (k : Nat) : ∀ (g : Nat) (eX : List Int) (kK : Int) (a1 : Int) (r1 : List (gY)) (r2 : List ByteArray) (r3 : List (nG)) (r4 : Int) (w0 w : World) (hI : aK w0 w g eX kK) (hB : Below w0.heap.size w0 w) (h : dR.f k eX kK a1 = some (r1, r2, r3, r4)),
  Calls Tryz.prog 56 #[.pointer (some ⟨g, 0, none⟩), .int .i64 a1] w fun e w' => ∃ qj Dq EK : Value, e = .returned (.agg #[qj, Dq, EK]) ∧ Kd.R qJ 69 w' w.heap.size (fun _ => True) qj r1 ∧ Kd.R Kd.string 9 w' w.heap.size (fun _ => True) Dq r2 ∧ Kd.R k28 28 w' w.heap.size (fun k_ => some k_ ≠ (qj : Value).ownBlock ∧ some k_ ≠ (Dq : Value).ownBlock) EK r3 ∧ aK w0 w' g eX r4 ∧ Below w0.heap.size w0 w' ∧ aJ w w' g none := by
 induction k using Nat.strongRecOn with
 | _ k ih =>
 intro g eX kK a1 r1 r2 r3 r4 w0 w hI hB h
 cases k with
 | zero => exact absurd h (by simp [dR.f])
 | succ k =>
 simp only [dR.f] at h
 have CG := Tryz.underlying28
 have Dt := Tryz.underlying69
 have HI0 := ak hI
 have HK := ak (aJ.refl w g none)
 have HL := ak hB.size
 clear hI
 have HW0 := ak hB.size
 have HB := ak hB
 clear hB
 have H := h
 clear h
 have O7 := ak H
 clear H
 go_enter Tryz.func56, Tryz.ntmps56
 go_upto_region 1 with (refine bS HI0 HK HB HW0 4 #[.slice none 0 0, .slice none 0 0, .slice none 0 0] 28 ?_; clear HI0 HK HB; intro Ag w4 oH aBU aBV aaq DI hg hb HI0 HK HB; clear hb hg)
 (try simp only [Act.put, qW, qX, l_c])
 go_cut [13] (fun v13 wc => ∃ (kq : Nat) (ad_ : Bool) (zO : Int), v13 = .bool ad_ ∧ ah (dR.j0 kq a1 ad_ eX zO = some (r1, r2, r3, r4)) ∧ ah (kq ≤ k) ∧ ah (wc.heap[Ag]? = some (.cells #[(.slice none 0 0), (.slice none 0 0), (.slice none 0 0)] 28 (0, 0))) ∧ ah (aK w0 wc g eX zO) ∧ ah (aJ w wc g none) ∧ ah (Below w0.heap.size w0 wc))
 case first =>
  have H := O7.out
  clear O7
  replace H := sd H
  rcases H with ⟨nR, H⟩ | ⟨nR, H⟩
  ·
   (first | rw [nR] | (simp only [dU, fU]; rw [nR]) | skip)
   have H' := ak H; clear H
   go_wp2
   go_meet
   case rel => exact ⟨_, _, _, rs, H', ⟨KR⟩, ⟨ub oH.out⟩, ⟨oW⟩, ⟨kh HK.out⟩, ⟨oZ⟩⟩
  ·
   (first | rw [nR] | (simp only [dU, fU]; rw [nR]) | skip)
   replace H := bd H
   obtain ⟨⟨aGD, aGE⟩, A6, H⟩ := H
   (try dsimp only at H)
   have H' := ak H; clear H
   go_wp2_with (go_at_call 57; (with_reducible refine (cZ.calls w0 ?fG ?jc A6.out).mono ?_); (case fG => exact oW); (case jc => exact oZ); rintro e w7 ⟨rfl, hi, hb, hk⟩; replace oH := kc oH hk DI; replace HK := kt HK hk; replace HB := ak (hb); replace HI0 := ak (hi); clear hb; (try clear hk); (try clear hi))
   go_meet
   case rel => exact ⟨_, _, _, rs, H', ⟨KR⟩, ⟨ub oH.out⟩, ⟨oW⟩, ⟨kh HK.out⟩, ⟨oZ⟩⟩
 case rest =>
  clear O7
  obtain ⟨kq, ad_, zO, rfl, HA, HJ2, oH, HI0, HK, HB⟩ := hcut
  cases kq with
  | zero => exact zz HA.out
  | succ Y9 =>
   obtain ⟨H⟩ := HA
   simp only [dR.j0] at H
   replace H := sb H
   rcases H with ⟨rfl, H⟩ | ⟨rfl, H⟩
   ·
    replace H := bd H
    obtain ⟨⟨ayI, ayJ, ayK, aGF⟩, A9, H⟩ := H
    (try dsimp only at H)
    obtain ⟨rfl, rfl, rfl, rfl⟩ := s4 H
    go_wp2_with (refine gL 98 15 Tryz.func98 #[.pointer (some ⟨g, 0, none⟩)] ?_; (with_reducible refine (iC.calls w0 ?fG ?jc A9.out).mono ?_); (case fG => exact oW); (case jc => exact oZ); rintro e w10 ⟨aGG, aGH, aGI, rfl, ho0, ho1, ho2, hi, hb, hk⟩; refine ⟨_, rfl, ?_⟩; have asQ := ak (Kd.aA ho0 (dJ (w := w) (g := g) (row := none) (kh HK.out))); have asR := ak (Kd.aA ho1 (dJ (w := w) (g := g) (row := none) (kh HK.out))); have asT := ak (Kd.aA (Kd.nP ho2 (g := Ag) (o := .cells #[.slice none 0 0, .slice none 0 0, .slice none 0 0] 28 (0, 0)) (ub oH.out)) (dJ (w := w) (g := g) (row := none) (kh HK.out))); replace oH := kc oH hk DI; replace HK := kt HK hk; replace HB := ak (hb); replace HI0 := ak (hi); clear hb; (try clear hk); (try clear hi); (try clear ho0); (try clear ho1); (try clear ho2); obtain ⟨CU, Ad, O5⟩ := Kd.aN asQ.out; subst O5; have aqP := DI.out; have aqQ := aaq.out; have z13 := jW oH.out; obtain ⟨QF, OM, SS⟩ := Kd.aN asR.out; subst SS; obtain ⟨KP, KQ, SV⟩ := Kd.aN asT.out; subst SV)
    refine bodyPost_ret (results_cell_row rfl _ _ Ag 28 #[.slice CU ayI.length Ad, .slice QF ayJ.length OM, .slice KP ayK.length KQ] (0, 0) _ rfl bq Tryz.underlying28 rfl (by kernel_rfl)) rfl ?_
    exact ⟨_, _, _, er, rr, rr, rr, oW, oZ, kh HK.out⟩
   ·
    obtain ⟨ayL, akg⟩ := nm ([(⟨#[109, 117, 108, 116, 105, 112, 97, 114, 116, 47, 109, 105, 120, 101, 100, 59, 32, 98, 111, 117, 110, 100, 97, 114, 121, 61, 98, 48]⟩ : ByteArray), (⟨#[77, 117, 108, 116, 105, 112, 97, 114, 116, 47, 97, 108, 116, 101, 114, 110, 97, 116, 105, 118, 101, 59, 32, 66, 111, 117, 110, 100, 97, 114, 121, 61, 98, 50]⟩ : ByteArray), (⟨#[109, 117, 108, 116, 105, 112, 97, 114, 116, 47, 109, 105, 120, 101, 100, 59, 32, 98, 111, 117, 110, 100, 97, 114, 121, 61, 120, 121, 122]⟩ : ByteArray)] : List ByteArray)
    rw [← akg.out] at H
    replace H := bd H
    obtain ⟨⟨aea, ayM⟩, A16, H⟩ := H
    (try dsimp only at H)
    obtain ⟨Ib, akh⟩ := nm ([(⟨(⟨#[83, 117, 98, 106, 101, 99, 116]⟩ : ByteArray), (⟨#[109, 97, 110, 121]⟩ : ByteArray)⟩ : gY), (⟨(⟨#[67, 111, 110, 116, 101, 110, 116, 45, 84, 121, 112, 101]⟩ : ByteArray), aea⟩ : gY)] : List (gY))
    rw [← akh.out] at H
    obtain ⟨ayN, aki⟩ := nm ([2, 1, 3] : List Int)
    rw [← aki.out] at H
    replace H := bd H
    obtain ⟨⟨aGJ, aGK⟩, A17, H⟩ := H
    (try dsimp only at H)
    have H' := ak H; clear H
    go_wp2_with (first | (refine QC 18 Kd.string 9 [.string (⟨#[109, 117, 108, 116, 105, 112, 97, 114, 116, 47, 109, 105, 120, 101, 100, 59, 32, 98, 111, 117, 110, 100, 97, 114, 121, 61, 98, 48]⟩ : ByteArray), .string (⟨#[77, 117, 108, 116, 105, 112, 97, 114, 116, 47, 97, 108, 116, 101, 114, 110, 97, 116, 105, 118, 101, 59, 32, 66, 111, 117, 110, 100, 97, 114, 121, 61, 98, 50]⟩ : ByteArray), .string (⟨#[109, 117, 108, 116, 105, 112, 97, 114, 116, 47, 109, 105, 120, 101, 100, 59, 32, 98, 111, 117, 110, 100, 97, 114, 121, 61, 120, 121, 122]⟩ : ByteArray)] akg (dD.one (show Kd.M Kd.string _ _ _ (⟨#[109, 117, 108, 116, 105, 112, 97, 114, 116, 47, 109, 105, 120, 101, 100, 59, 32, 98, 111, 117, 110, 100, 97, 114, 121, 61, 98, 48]⟩ : ByteArray) [.string (⟨#[109, 117, 108, 116, 105, 112, 97, 114, 116, 47, 109, 105, 120, 101, 100, 59, 32, 98, 111, 117, 110, 100, 97, 114, 121, 61, 98, 48]⟩ : ByteArray)] from rfl) (dD.one (show Kd.M Kd.string _ _ _ (⟨#[77, 117, 108, 116, 105, 112, 97, 114, 116, 47, 97, 108, 116, 101, 114, 110, 97, 116, 105, 118, 101, 59, 32, 66, 111, 117, 110, 100, 97, 114, 121, 61, 98, 50]⟩ : ByteArray) [.string (⟨#[77, 117, 108, 116, 105, 112, 97, 114, 116, 47, 97, 108, 116, 101, 114, 110, 97, 116, 105, 118, 101, 59, 32, 66, 111, 117, 110, 100, 97, 114, 121, 61, 98, 50]⟩ : ByteArray)] from rfl) (dD.one (show Kd.M Kd.string _ _ _ (⟨#[109, 117, 108, 116, 105, 112, 97, 114, 116, 47, 109, 105, 120, 101, 100, 59, 32, 98, 111, 117, 110, 100, 97, 114, 121, 61, 120, 121, 122]⟩ : ByteArray) [.string (⟨#[109, 117, 108, 116, 105, 112, 97, 114, 116, 47, 109, 105, 120, 101, 100, 59, 32, 98, 111, 117, 110, 100, 97, 114, 121, 61, 120, 121, 122]⟩ : ByteArray)] from rfl) (dD.none _ _)))) ?_; intro aGL w18 asU hb; have BF := ak (Kd.aA asU (dJ (w := w) (g := g) (row := none) (kh HK.out))); replace oH := kb oH hb; replace HK := ak (aJ.trans (kh HK.out) (aJ.of_below hb g none) (.inl rfl)); replace HB := ak (iE oZ hb); replace HI0 := ak (aK.below oW hb); clear hb asU; obtain ⟨Px, Py, XI⟩ := Kd.aN BF.out; subst XI) | (refine gL 58 19 Tryz.func58 #[.pointer (some ⟨g, 0, none⟩), .slice Px ayL.length Py] ?_; (with_reducible refine (fH.calls w0 ?fG ?jc (cu ((Kd.au BF.out).2.2)) ((Kd.au BF.out).2.1) (oq (aK.own_ne HI0.out BF.out (by decide))) A16.out).mono ?_); (case fG => exact oW); (case jc => exact oZ); rintro e w21 ⟨rfl, hi, hb, hk⟩; refine ⟨_, rfl, ?_⟩; replace oH := kc oH hk DI; replace BF := ki BF hk; replace HK := kt HK hk; replace HB := ak (hb); replace HI0 := ak (hi); clear hb; (try clear hk); (try clear hi)) | (refine QC 21 qJ 69 [.string (⟨#[83, 117, 98, 106, 101, 99, 116]⟩ : ByteArray), .string (⟨#[109, 97, 110, 121]⟩ : ByteArray), .string (⟨#[67, 111, 110, 116, 101, 110, 116, 45, 84, 121, 112, 101]⟩ : ByteArray), .string aea] akh (dD.c2 (show Kd.M qJ _ _ _ (⟨(⟨#[83, 117, 98, 106, 101, 99, 116]⟩ : ByteArray), (⟨#[109, 97, 110, 121]⟩ : ByteArray)⟩ : gY) [.string (⟨#[83, 117, 98, 106, 101, 99, 116]⟩ : ByteArray), .string (⟨#[109, 97, 110, 121]⟩ : ByteArray)] from (wC _ _ _ (⟨(⟨#[83, 117, 98, 106, 101, 99, 116]⟩ : ByteArray), (⟨#[109, 97, 110, 121]⟩ : ByteArray)⟩ : gY) )) (dD.c2 (show Kd.M qJ _ _ _ (⟨(⟨#[67, 111, 110, 116, 101, 110, 116, 45, 84, 121, 112, 101]⟩ : ByteArray), aea⟩ : gY) [.string (⟨#[67, 111, 110, 116, 101, 110, 116, 45, 84, 121, 112, 101]⟩ : ByteArray), .string aea] from (wC _ _ _ (⟨(⟨#[67, 111, 110, 116, 101, 110, 116, 45, 84, 121, 112, 101]⟩ : ByteArray), aea⟩ : gY) )) (dD.none _ _))) ?_; intro aGM Xm asV hb; have Na := ak (Kd.aA asV (dJ (w := w) (g := g) (row := none) (kh HK.out))); replace BF := rb BF hb; replace oH := kb oH hb; replace HK := ak (aJ.trans (kh HK.out) (aJ.of_below hb g none) (.inl rfl)); replace HB := ak (iE oZ hb); replace HI0 := ak (aK.below oW hb); clear hb asV; obtain ⟨EF, DJ, am9⟩ := Kd.aN Na.out; subst am9) | (refine bS HI0 HK HB HW0 5 #[.slice none 0 0, .slice none 0 0, .slice none 0 0] 28 ?_; clear HI0 HK HB; intro BG w25 sF aBW aBX aar Ot hg hb HI0 HK HB; have Lr := AZ oH hg; have Ls := A_ oH hg; replace BF := rb BF hb; replace Na := rb Na hb; replace oH := kb oH hb; clear hb hg; have asW := Ls.out; have asX := Lr.out; have aiU := Ot.out; have aiV := aar.out; have z28 := jW sF.out) | (refine QC 24 (Kd.int .i64) 3 [.int .i64 2, .int .i64 1, .int .i64 3] aki (dD.one (show Kd.M (Kd.int .i64) _ _ _ 2 [.int .i64 2] from rfl) (dD.one (show Kd.M (Kd.int .i64) _ _ _ 1 [.int .i64 1] from rfl) (dD.one (show Kd.M (Kd.int .i64) _ _ _ 3 [.int .i64 3] from rfl) (dD.none _ _)))) ?_; intro aGN w29 VT hb; have Rz := ak (Kd.aA VT (dJ (w := w) (g := g) (row := none) (kh HK.out))); replace BF := rg BF hb; replace Na := rg Na hb; replace oH := kp oH #[.slice none 0 0, .slice none 0 0, .slice none 0 0] hb; replace sF := kp sF #[.slice EF Ib.length DJ, .slice none 0 0, .slice none 0 0] hb; replace HK := ak (aJ.trans (kh HK.out) (aJ.of_below hb g none) (.inl rfl)); replace HB := ak (iE oZ hb); replace HI0 := ak (aK.below (show aK w0 (((w25.setCell ⟨BG, 0, none⟩ (.slice EF Ib.length DJ)).setCell ⟨BG, 1, none⟩ (.slice none 0 0)).setCell ⟨BG, 2, none⟩ (.slice none 0 0)) g eX ayM from oW) hb); clear hb VT; obtain ⟨am5, am6, ahd⟩ := Kd.aN Rz.out; subst ahd) | (refine gL 97 25 Tryz.func97 #[.pointer (some ⟨g, 0, none⟩), .slice am5 ayN.length am6] ?_; (with_reducible refine (kG.calls w0 ?fG ?jc (cu ((Kd.au Rz.out).2.2)) ((Kd.au Rz.out).2.1) (oq (aK.own_ne HI0.out Rz.out (by decide))) A17.out).mono ?_); (case fG => exact oW); (case jc => exact oZ); rintro e w32 ⟨rfl, hi, hb, hk⟩; refine ⟨_, rfl, ?_⟩; replace oH := kc oH hk DI; replace BF := ki BF hk; replace Na := ki Na hk; replace sF := kc sF hk Ot; replace Rz := ki Rz hk; replace HK := kt HK hk; replace HB := ak (hb); replace HI0 := ak (hi); clear hb; (try clear hk); (try clear hi)))
    go_loopg [6] Y9 (fun kq v6 w' => ∃ (Bc : Int) (zO : Int) (yu : List (nG)) (yJ : Value), v6 = .int .i64 Bc ∧ ah (dR.l0 kq a1 Bc eX zO Ib yu = some (r1, r2, r3, r4)) ∧ ah (kq ≤ Y9) ∧ ah (Kd.R qJ 69 w' w.heap.size (fun _ => True) (.slice EF Ib.length DJ) Ib) ∧ ah (Kd.R k28 28 w' w.heap.size (fun k_ => some k_ ≠ ((.slice EF Ib.length DJ) : Value).ownBlock ∧ k_ ≠ Ag ∧ k_ ≠ BG) yJ yu) ∧ ah (w'.heap[Ag]? = some (.cells #[(.slice none 0 0), (.slice none 0 0), (.slice none 0 0)] 28 (0, 0))) ∧ ah (w'.heap[BG]? = some (.cells #[(.slice EF Ib.length DJ), (.slice none 0 0), yJ] 28 (0, 0))) ∧ ah (aK w0 w' g eX zO) ∧ ah (aJ w w' g none) ∧ ah (Below w0.heap.size w0 w'))
    case atStart => exact ⟨_, _, _, _, rs, H', ⟨Nat.le_refl _⟩, ⟨ur Na.out⟩, ⟨nx⟩, ⟨ub oH.out⟩, ⟨ub sF.out⟩, ⟨oW⟩, ⟨kh HK.out⟩, ⟨oZ⟩⟩
    case round =>
     clear H'
     try clear c2
     obtain ⟨Bc, zO, yu, yJ, rfl, HA, HK2, qZ, nK, oH, sF, HI0, HK, HB⟩ := hrel
     cases gk with
     | zero => exact zz HA.out
     | succ k2 =>
      obtain ⟨H⟩ := HA
      simp only [dR.l0] at H
      replace H := sp H
      rcases H with ⟨c33, H⟩ | ⟨c33, H⟩
      ·
       have Ri : decide (0 < Bc) = true := decide_eq_true c33
       clear c33
       replace H := bd H
       obtain ⟨⟨aeb, aec, aed, ayO⟩, A34, H⟩ := H
       (try dsimp only at H)
       replace H := nl H; obtain ⟨adD, H⟩ := H
       obtain ⟨aGO, akj⟩ := nm (yu ++ [(⟨aeb, aec, aed⟩ : nG)])
       rw [← akj.out] at H
       have H' := ak H; clear H
       try go_wp2
       replace qZ := ak (Kd.mD qZ.out)
       replace nK := ak (Kd.mD nK.out)
       replace oH := ak (bn oH.out)
       replace sF := ak (bn sF.out)
       replace HI0 := ak (aK.drew HI0.out)
       replace HK := ak (yt HK.out)
       replace HB := ak (iH HB.out)
       refine Ci (n := 10) (S := fun w' => w'.cell? ⟨BG, 0, none⟩ = some (.slice EF Ib.length DJ) ∧ w'.cell? ⟨BG, 1, none⟩ = some (.slice none 0 0) ∧ w'.cell? ⟨BG, 2, none⟩ = some (yJ)) (ds := [9]) #[false, false, false, false, false, false, false, false, false, false] (by kernel_rfl) rfl rfl ⟨(aG sF.out 0).trans rfl, (aG sF.out 1).trans rfl, (aG sF.out 2).trans rfl⟩ (fun hHeld => ?_); refine uq dR.aos dR.aik (fun t_ Xp => ?_)
       generalize wr.drew = w36 at qZ nK oH sF HI0 HK HB hHeld ⊢
       refine pl 0 ?_
       refine pl 2 ?_
       refine pl 3 ?_
       refine pl 4 ?_
       refine tk 1 ?_
       refine o1 5 (fun K hK => ?_)
       refine yR Tryz.func56 (by kernel_rfl) rfl #[.pointer (some ⟨g, 0, none⟩), .int .i64 (wrap64 (a1 - 1))] (by rfl) rfl rfl ma ?_
       with_reducible refine (ih k2 (by have := HJ2.out; have := HK2.out; omega) g eX zO (wrap64 (a1 - 1)) aeb aec aed ayO w0 _ ?fG ?jc A34.out).mono ?_
       (case fG => exact oW)
       (case jc => exact oZ)
       rintro e w37 ⟨aGP, aGQ, aGR, rfl, ho0, ho1, ho2, hi, hb, hk⟩
       refine ⟨_, rfl, ?_⟩
       have aee := ak (Kd.aA (Kd.gU ho0 (Kd.kX (ur qZ.out))) (dJ (w := w) (g := g) (row := none) (kh HK.out)))
       have aef := ak (Kd.aA ho1 (dJ (w := w) (g := g) (row := none) (kh HK.out)))
       have aeg := ak (Kd.aA (Kd.nP (Kd.nP (Kd.gU (Kd.gU ho2 (Kd.kX (ur qZ.out))) (Kd.kX (ur nK.out))) (g := Ag) (o := .cells #[.slice none 0 0, .slice none 0 0, .slice none 0 0] 28 (0, 0)) (ub oH.out)) (g := BG) (o := .cells #[.slice EF Ib.length DJ, .slice none 0 0, yJ] 28 (0, 0)) (ub sF.out)) (dJ (w := w) (g := g) (row := none) (kh HK.out)))
       replace qZ := kj qZ hk ho0
       replace nK := ak (Kd.aZ (Kd.tK (Kd.tK (Kd.tK (Kd.TY (aK.apart (show aK w0 _ g eX zO from oW) (ur nK.out) (by decide)) hk) (Kd.fQ ho0)) (Kd.fQ ho1)) (Kd.fQ ho2)) (fun _ h_ => h_.1))
       replace oH := kc oH hk DI
       replace sF := kc sF hk Ot
       replace HK := kt HK hk
       replace HB := ak (hb)
       replace HI0 := ak (hi)
       try clear hb
       try clear hk
       try clear hi
       try clear ho0
       try clear ho1
       try clear ho2
       obtain ⟨abT, VZ, XO⟩ := Kd.aN aee.out
       (first | subst XO | (injection XO with qR wZ qU; have xg := qR.symm; have xk := qU.symm; clear qR wZ qU; subst xg; subst xk))
       obtain ⟨ayP, ayQ, asY⟩ := Kd.aN aef.out
       (first | subst asY | (injection asY with qR wZ qU; have xg := qR.symm; have xk := qU.symm; clear qR wZ qU; subst xg; subst xk))
       obtain ⟨ayR, ayS, asZ⟩ := Kd.aN aeg.out
       (first | subst asZ | (injection asZ with qR wZ qU; have xg := qR.symm; have xk := qU.symm; clear qR wZ qU; subst xg; subst xk))
       refine hK.out _ _ sx (fun hHeld => ?_)
       clear hK K
       refine nrm ?_
       refine o1 6 (fun K hK => ?_)
       refine Cj (w1 := ?_) (v := ?_) (by rfl) rfl ?_ ?_
       rotate_left 2
       ·
        go_simp
        constructor
        ·
         rfl
        ·
         rfl
       refine hK.out _ _ ⟨(aG (aX sF.out _) 0).trans rfl, (aG (aX sF.out _) 1).trans rfl, (aG (aX sF.out _) 2).trans rfl⟩ (fun hHeld => ?_)
       clear hK K
       refine nrm ?_
       refine o1 7 (fun K hK => ?_)
       refine Kd.nU k28 w.heap.size (by rfl) (.tmp 31) (.tmp 36) 26 28 (.agg #[(.slice none 0 0), (.slice none 0 0), (.slice none 0 0)]) 72 rfl Tryz.underlying26 SK rfl (by decide) (by omega) yJ yu (⟨aeb, aec, aed⟩ : nG) [.slice abT aeb.length VZ, .slice ayP aec.length ayQ, .slice ayR aed.length ayS] (fun k_ => some k_ ≠ (.slice EF Ib.length DJ : Value).ownBlock ∧ k_ ≠ Ag ∧ k_ ≠ BG) (fun k_ => ((fun k_ => some k_ ≠ (.slice EF Ib.length DJ : Value).ownBlock ∧ k_ ≠ Ag ∧ k_ ≠ BG)) k_ ∧ some k_ ≠ (yJ : Value).ownBlock) rfl rfl ?aP (fun _ hk => hk) ?aF ?aO (Below.refl _ _) ?aS ?aL ?_
       (case aP => exact Oe _ _ _ (⟨aeb, aec, aed⟩ : nG) (Kd.aZ (Kd.mJ (Kd.mJ (Kd.o7 (aee.out) (Kd.kU nK.out) (by decide)) oH.out (by decide)) sF.out (by decide)) (fun k_ hk => ⟨⟨hk.1.1.1.2, ⟨hk.1.2, hk.2⟩⟩, hk.1.1.2⟩)) (Kd.aZ (Kd.mJ (Kd.mJ (Kd.o7 (Kd.o7 (aef.out) (Kd.kU qZ.out) (by decide)) (Kd.kU nK.out) (by decide)) oH.out (by decide)) sF.out (by decide)) (fun k_ hk => ⟨⟨hk.1.1.1.2, ⟨hk.1.2, hk.2⟩⟩, hk.1.1.2⟩)) (Kd.aZ (aeg.out) (fun k_ hk => ⟨⟨hk.1.1.1.2, ⟨hk.1.2, hk.2⟩⟩, hk.1.1.2⟩)))
       (case aF => exact (fun k_ hk => ⟨Kd.fresh' (Kd.kX (ur qZ.out)) k_ hk, Kd.yg (g := Ag) (o := .cells #[.slice none 0 0, .slice none 0 0, .slice none 0 0] 28 (0, 0)) (ub oH.out) k_ hk, Kd.yg (g := BG) (o := .cells #[.slice EF Ib.length DJ, .slice none 0 0, yJ] 28 (0, 0)) (ub sF.out) k_ hk⟩))
       (case aO => exact (ur (Kd.aZ nK.out (fun _ hk => ⟨hk.1.1.1.1, ⟨hk.1.1.1.2.1, hk.1.1.1.2.2⟩⟩))))
       (case aS => exact (dJ (w := w) (g := g) (row := none) (kh HK.out)))
       (case aL => have := adD.out; omega)
       intro aGS w38 ho hb hg hat
       rw [← akj.out] at ho
       have yP := ak (Kd.qo (ur qZ.out) (Kd.kU (ur nK.out)) (by decide) hg)
       have yQ := ak (dw (g := Ag) (o := .cells #[.slice none 0 0, .slice none 0 0, .slice none 0 0] 28 (0, 0)) (ub oH.out) hg (Kd.y7 nK.out (fun _ hk => hk.1.1.1.2.1)))
       have zA := ak (dw (g := BG) (o := .cells #[.slice EF Ib.length DJ, .slice none 0 0, yJ] 28 (0, 0)) (ub sF.out) hg (Kd.y7 nK.out (fun _ hk => hk.1.1.1.2.2)))
       have CS := ak (aK.grown oW hg (aK.own_ne HI0.out nK.out (by decide)))
       have GY := ak (vJ oZ HL.out hb)
       have JE := ak (aJ.trans (kh HK.out) (aJ.yT hg g) (Kd.F9 nK.out))
       have MX := ak (ho)
       clear qZ oH sF HI0 HB HK nK aee aef aeg
       have qZ := yP
       have oH := yQ
       have sF := zA
       have HI0 := CS
       have HB := GY
       have HK := JE
       have as1 := MX
       clear yP yQ zA CS GY JE MX ho hb hg hat
       obtain ⟨as2, as3, aeh⟩ := Kd.aN as1.out
       (first | subst aeh | (injection aeh with qR wZ qU; have xg := qR.symm; have xk := qU.symm; clear qR wZ qU; subst xg; subst xk))
       refine hK.out _ _ sx (fun hHeld => ?_)
       clear hK K
       refine nrm ?_
       refine pl 8 ?_
       refine GX (i := 9) (N := none) #[true, true, true, true, true, true, true, true, true, true] rfl rfl (oL t_.out (by kernel_rfl)) (by decide) (fun K hK => ?_)
       have ayT : w38.cell? ⟨BG, 2, none⟩ = some (yJ) := (aG sF.out 2).trans rfl
       have as4 := iq sF.out 2
       have aho := Lr.out
       have ahp := Ls.out
       refine GZ (w1 := ?_) (by rfl) rfl ?_ ?_
       rotate_left
       ·
        go_simp
        rfl
       refine hK.out _ _ ?_
       clear hK K
       refine G5 (yH t_.out (by kernel_rfl)) ?_
       try go_wp2
       go_roundg k2
       case measure => exact kl
       case rel => exact ⟨_, _, _, _, rs, H', ⟨kl⟩, ⟨rr⟩, ⟨rr⟩, ⟨bq⟩, ⟨bq⟩, ⟨oW⟩, ⟨kh HK.out⟩, ⟨oZ⟩⟩
      ·
       have Ri : decide (0 < Bc) = false := decide_eq_false c33
       clear c33
       obtain ⟨rfl, rfl, rfl, rfl⟩ := s4 H
       have aBY := Ls.out
       have aBZ := Lr.out
       have aB0 := Ot.out
       have aB1 := aar.out
       have z46 := jW sF.out
       have akk := DI.out
       have akl := aaq.out
       have z48 := jW oH.out
       obtain ⟨PK, NS, XK⟩ := Kd.aN nK.out
       subst XK
       go_wp2
       refine bodyPost_ret (results_cell_row rfl _ _ Ag 28 #[.slice EF Ib.length DJ, .slice none 0 0, .slice PK yu.length NS] (0, 0) _ rfl bq Tryz.underlying28 rfl (by kernel_rfl)) rfl ?_
       exact ⟨_, _, _, er, rr, nx, ur (Kd.aZ (Kd.iW (p := ⟨Ag, 2, none⟩) (Kd.iW (p := ⟨Ag, 1, none⟩) (Kd.iW (p := ⟨Ag, 0, none⟩) (Kd.aZ nK.out (fun k_ hk => (⟨hk, hk.2.1⟩ : _ ∧ k_ ≠ Ag))) (fun _ hk => hk.2) (.slice EF Ib.length DJ)) (fun _ hk => hk.2) (.slice none 0 0)) (fun _ hk => hk.2) (.slice PK yu.length NS)) (fun _ hk => ⟨hk.1.1, (by simp [Value.ownBlock])⟩)), oW, oZ, kh HK.out⟩
end Go.Proofs.YtncdadcmghglkaaGreatDoor.PFnCountParts
