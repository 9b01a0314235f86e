/- Printed walks; conditions: those in each statement. -/
import Derived.Test.YtncdadcmghglkaaGreatDoorVFnPartLinesQt
import Derived.Test.YtncdadcmghglkaaGreatDoorVFnPartLinesYt
import Derived.Test.YtncdadcmghglkaaGreatDoorPFnPartLinesx0
import Derived.Test.YtncdadcmghglkaaGreatDoorPFnPartLinesx1
import Derived.Test.YtncdadcmghglkaaGreatDoorPFnPartLinesx7
-- short
-- dense
-- sq
-- sq2
namespace Go.Proofs.YtncdadcmghglkaaGreatDoor.PFnPartLines
open Go.RowKit Go.Proofs.YtncdadcmghglkaaGreatDoor.X Go.Proofs.YtncdadcmghglkaaGreatDoorW.bI Go.Proofs.YtncdadcmghglkaaGreatDoorW.iy Go.Proofs.YtncdadcmghglkaaGreatDoorW.iZ
attribute [local go_sem] kZ lg nK nM jW jX lq lu   -- for this text's walks alone
set_option linter.unusedVariables false
set_option maxHeartbeats 8000000
set_option maxRecDepth 100000
set_option linter.unusedSimpArgs false
def iC.l0 : Nat → Int → List Int → Int → List (gX) → List ByteArray → Option ((List (gX)) × List ByteArray × (List (nG)) × Int)
 | 0, _, _, _, _, _ => none
 | k + 1, x6, x1000, oC, aau, Ut => if x6 > 0 then ((fH.f k x1000 oC (([(⟨#[97]⟩ : ByteArray), (⟨#[]⟩ : ByteArray), (⟨#[116, 101, 120, 116, 32, 111, 102, 32, 97, 32, 108, 105, 110, 101]⟩ : ByteArray), (⟨#[45, 45, 98, 49]⟩ : ByteArray), (⟨#[45, 45, 120]⟩ : ByteArray)] : List ByteArray))).bind fun akJ => (if Ut.length < 8796093022208 then (iC.l0 k (wrap64 (x6 - 1)) x1000 akJ.2 aau (Ut ++ [akJ.1])) else (none))) else (some (aau, Ut, ([] : List (nG)), oC))
def iC.f (k : Nat) (fB : List Int) (ku : Int) : Option ((List (gX)) × List ByteArray × (List (nG)) × Int) := (b_.f k fB ku 2).bind fun aeM => (if aeM.1 = 0 then ((fH.f k fB aeM.2 (([(⟨#[104, 101, 108, 108, 111]⟩ : ByteArray), (⟨#[90, 111, 195, 171]⟩ : ByteArray), (⟨#[]⟩ : ByteArray)] : List ByteArray))).bind fun akK => ((iJ.f k fB akK.2).bind fun akL => ((rJ.f k akK.1 akL.1).bind fun aeN => (some (aeN.1, aeN.2.1, aeN.2.2.1, akL.2))))) else ((lH.f k fB aeM.2).bind fun akM => ((jY.f k fB akM.2 (([1, 2, 0, 3] : List Int))).bind fun akN => (iC.l0 k akN.1 fB akN.2 akM.1 ([] : List ByteArray)))))
def iC.T8 : Bool × List (List Nat × List Nat) := (true, [([], []), ([0], [0]), ([], []), ([], []), ([2, 3], [2, 3]), ([4], [4]), ([1, 5, 4], [1, 5]), ([0, 1, 2, 3, 4, 5, 6], []), ([7, 6, 6, 0, 1, 2, 3, 4, 5, 6], [6, 7])])
def iC.B8 : List Nat := [0, 1, 0, 0, 12, 28, 63, 127, 255]
theorem iC.abl : rU .any (opsOf Tryz.f98 8) = iC.T8 := by kernel_rfl
theorem iC.Rf : nD iC.T8.2 iC.B8 = true := by kernel_rfl
theorem iC.calls {k g : Nat} {fB : List Int} {ku r4 : Int} {r1 : List (gX)} {r2 : List ByteArray} {r3 : List (nG)} {w : World} (w0 : World) (hI : aN w0 w g fB ku) (hB : Below w0.heap.size w0 w) (h : iC.f k fB ku = some (r1, r2, r3, r4)) :
  Calls Tryz.prog 98 #[.pointer (some ⟨g, 0, none⟩)] w fun e w' => ∃ oV Di EG : Value, e = .returned (.agg #[oV, Di, EG]) ∧ Kd.R qI 69 w' w.heap.size (fun _ => True) oV r1 ∧ Kd.R Kd.string 9 w' w.heap.size (fun _ => True) Di r2 ∧ Kd.R k28 28 w' w.heap.size (fun k_ => some k_ ≠ (oV : Value).ownBlock ∧ some k_ ≠ (Di : Value).ownBlock) EG r3 ∧ aN w0 w' g fB r4 ∧ Below w0.heap.size w0 w' ∧ aJ w w' g none := by
 have EH := Tryz.underlying28
 have HI0 := ak hI
 have HK := ak (aJ.refl w g none)
 have HL := ak hB.size
 clear hI
 have HW0 := ak hB.size
 have HB := ak hB
 clear hB
 unfold iC.f at h; have H := h
 clear h
 replace H := bd H
 obtain ⟨⟨aIF, aIG⟩, A2, H⟩ := H
 (try dsimp only at H)
 replace H := sq H
 rcases H with ⟨iO, yK, H⟩ | ⟨c3, iO, yK, H⟩
 ·
  obtain ⟨azW, akO⟩ := nm ([(⟨#[104, 101, 108, 108, 111]⟩ : ByteArray), (⟨#[90, 111, 195, 171]⟩ : ByteArray), (⟨#[]⟩ : ByteArray)] : List ByteArray)
  rw [← akO.out] at H
  replace H := bd H
  obtain ⟨⟨azX, aIH⟩, A4, H⟩ := H
  (try dsimp only at H)
  replace H := bd H
  obtain ⟨⟨azY, aII⟩, A5, H⟩ := H
  (try dsimp only at H)
  replace H := bd H
  obtain ⟨⟨azZ, az0, az1, aIJ⟩, A6, H⟩ := H
  (try dsimp only at H)
  obtain ⟨rfl, rfl, rfl, rfl⟩ := s4 H
  go_enter Tryz.func98, Tryz.ntmps98
  go_wp2_with (first | (refine bS HI0 HK HB HW0 2 #[.slice none 0 0, .slice none 0 0, .slice none 0 0] 28 ?_; clear HI0 HK HB; intro RF w7 mO avj avk Uu yC hg hb HI0 HK HB; clear hb hg) | (refine gL 57 8 Tryz.func57 #[.pointer (some ⟨g, 0, none⟩), .int .i64 2] ?_; (with_reducible refine (b_.calls w0 ?fZ ?jc A2.out).mono ?_); (case fZ => exact oI); (case jc => exact oJ); rintro e w8 ⟨rfl, hi, hb, hk⟩; refine ⟨_, rfl, ?_⟩; replace mO := kc mO hk yC; replace HK := kt HK hk; replace HB := ak (hb); replace HI0 := ak (hi); clear hb; (try clear hk); (try clear hi)) | (refine QD 12 Kd.string 9 [.string (⟨#[104, 101, 108, 108, 111]⟩ : ByteArray), .string (⟨#[90, 111, 195, 171]⟩ : ByteArray), .string (⟨#[]⟩ : ByteArray)] akO (dh.one (show Kd.M Kd.string _ _ _ (⟨#[104, 101, 108, 108, 111]⟩ : ByteArray) [.string (⟨#[104, 101, 108, 108, 111]⟩ : ByteArray)] from rfl) (dh.one (show Kd.M Kd.string _ _ _ (⟨#[90, 111, 195, 171]⟩ : ByteArray) [.string (⟨#[90, 111, 195, 171]⟩ : ByteArray)] from rfl) (dh.one (show Kd.M Kd.string _ _ _ (⟨#[]⟩ : ByteArray) [.string (⟨#[]⟩ : ByteArray)] from rfl) (dh.none _ _)))) ?_; intro aIK w9 NY hb; have BK := ak (Kd.aC NY (dG (w := w) (g := g) (row := none) (kh HK.out))); replace mO := kb mO hb; replace HK := ak (aJ.trans (kh HK.out) (aJ.of_below hb g none) (.inl rfl)); replace HB := ak (iD oJ hb); replace HI0 := ak (aN.below oI hb); clear hb NY; obtain ⟨yc, wM, PI⟩ := Kd.aI BK.out; subst PI) | (refine gL 58 13 Tryz.func58 #[.pointer (some ⟨g, 0, none⟩), .slice yc azW.length wM] ?_; (with_reducible refine (fH.calls w0 ?fZ ?jc (cu ((Kd.ay BK.out).2.2)) ((Kd.ay BK.out).2.1) (nU (aN.own_ne HI0.out BK.out (by decide))) A4.out).mono ?_); (case fZ => exact oI); (case jc => exact oJ); rintro e w12 ⟨rfl, hi, hb, hk⟩; refine ⟨_, rfl, ?_⟩; replace mO := kc mO hk yC; replace BK := ki BK hk; replace HK := kt HK hk; replace HB := ak (hb); replace HI0 := ak (hi); clear hb; (try clear hk); (try clear hi)) | (refine gL 143 15 Tryz.func143 #[.pointer (some ⟨g, 0, none⟩)] ?_; (with_reducible refine (iJ.calls w0 ?fZ ?jc A5.out).mono ?_); (case fZ => exact oI); (case jc => exact oJ); rintro e w13 ⟨rfl, hi, hb, hk⟩; refine ⟨_, rfl, ?_⟩; replace mO := kc mO hk yC; replace BK := ki BK hk; replace HK := kt HK hk; replace HB := ak (hb); replace HI0 := ak (hi); clear hb; (try clear hk); (try clear hi)) | (refine gL 142 16 Tryz.func142 #[.string azX, .string azY] ?_; (with_reducible refine (rJ.calls A6.out).mono ?_); rintro e SS ⟨aIL, aIM, aIN, rfl, ho0, ho1, ho2, hb⟩; refine ⟨_, rfl, ?_⟩; have aeO := ak (Kd.aC ho0 (dG (w := w) (g := g) (row := none) (kh HK.out))); have aeP := ak (Kd.aC (Kd.dR ho1 (Kd.jh (ur BK.out))) (dG (w := w) (g := g) (row := none) (kh HK.out))); have aeQ := ak (Kd.aC (Kd.nH (Kd.dR ho2 (Kd.jh (ur BK.out))) (g := RF) (o := .cells #[.slice none 0 0, .slice none 0 0, .slice none 0 0] 28 (0, 0)) (ub mO.out)) (dG (w := w) (g := g) (row := none) (kh HK.out))); replace BK := ak (Kd.bH (ur BK.out) (Kd.bZ ho1) hb); replace mO := kb mO hb; replace HK := ak (aJ.trans (kh HK.out) (aJ.of_below hb g none) (.inl rfl)); replace HB := ak (iD oJ hb); replace HI0 := ak (aN.below oI hb); clear hb; (try clear ho0); (try clear ho1); (try clear ho2)) | (refine bS HI0 HK HB HW0 3 #[.slice none 0 0, .slice none 0 0, .slice none 0 0] 28 ?_; clear HI0 HK HB; intro avl w15 avm aCM aCN aho ahp hg hb HI0 HK HB; have abO := Ba mO hg; have abP := Bc mO hg; replace BK := rb BK hb; replace aeO := rb aeO hb; replace aeP := rb aeP hb; replace aeQ := ak (Kd.sQ (Kd.yJ (ur aeQ.out) avl (Nat.le_of_eq hg.symm)) hb); replace mO := kb mO hb; clear hb hg; obtain ⟨Vb, Vd, TD⟩ := Kd.aI aeO.out; subst TD; have ah7 := abP.out; have ah8 := abO.out; have aoJ := ahp.out; have aoK := aho.out; have z19 := kK avm.out; obtain ⟨NM, NP, Tj⟩ := Kd.aI aeP.out; subst Tj; obtain ⟨KX, KY, SV⟩ := Kd.aI aeQ.out; subst SV; have aCO := yC.out; have aCP := Uu.out; have z23 := kK mO.out))
  refine bodyPost_ret (results_cell_row rfl _ _ RF 28 #[.slice Vb azZ.length Vd, .slice NM az0.length NP, .slice KX az1.length KY] (0, 0) _ rfl bq Tryz.underlying28 rfl (by kernel_rfl)) rfl ?_
  exact ⟨_, _, _, er, rr, rr, rr, oI, oJ, kh HK.out⟩
 ·
  replace H := bd H
  obtain ⟨⟨Uw, az2⟩, Xp, H⟩ := H
  (try dsimp only at H)
  obtain ⟨az3, akP⟩ := nm ([1, 2, 0, 3] : List Int)
  rw [← akP.out] at H
  replace H := bd H
  obtain ⟨⟨aIO, aIP⟩, A25, H⟩ := H
  (try dsimp only at H)
  have H' := ak H; clear H
  go_enter Tryz.func98, Tryz.ntmps98
  go_wp2_with (first | (refine bS HI0 HK HB HW0 2 #[.slice none 0 0, .slice none 0 0, .slice none 0 0] 28 ?_; clear HI0 HK HB; intro RF w26 mO avj avk Uu yC hg hb HI0 HK HB; clear hb hg) | (refine gL 57 8 Tryz.func57 #[.pointer (some ⟨g, 0, none⟩), .int .i64 2] ?_; (with_reducible refine (b_.calls w0 ?fZ ?jc A2.out).mono ?_); (case fZ => exact oI); (case jc => exact oJ); rintro e w27 ⟨rfl, hi, hb, hk⟩; refine ⟨_, rfl, ?_⟩; replace mO := kc mO hk yC; replace HK := kt HK hk; replace HB := ak (hb); replace HI0 := ak (hi); clear hb; (try clear hk); (try clear hi)) | (refine gL 144 21 Tryz.func144 #[.pointer (some ⟨g, 0, none⟩)] ?_; (with_reducible refine (lH.calls w0 ?fZ ?jc Xp.out).mono ?_); (case fZ => exact oI); (case jc => exact oJ); rintro e w28 ⟨aIQ, rfl, ho0, hi, hb, hk⟩; refine ⟨_, rfl, ?_⟩; have Nv := ak (Kd.aC ho0 (dG (w := w) (g := g) (row := none) (kh HK.out))); replace mO := kc mO hk yC; replace HK := kt HK hk; replace HB := ak (hb); replace HI0 := ak (hi); clear hb; (try clear hk); (try clear hi); (try clear ho0); obtain ⟨QI, QJ, abm⟩ := Kd.aI Nv.out; subst abm) | (refine bS HI0 HK HB HW0 5 #[.slice none 0 0, .slice none 0 0, .slice none 0 0] 28 ?_; clear HI0 HK HB; intro J4 w30 su aCQ aCR aav OB hg hb HI0 HK HB; have LJ := Ba mO hg; have LK := Bc mO hg; replace Nv := rb Nv hb; replace mO := kb mO hb; clear hb hg; have aCS := LK.out; have aCT := LJ.out; have ah9 := OB.out; have ah_ := aav.out; have z33 := kK su.out) | (refine QD 24 (Kd.int .i64) 3 [.int .i64 1, .int .i64 2, .int .i64 0, .int .i64 3] akP (dh.one (show Kd.M (Kd.int .i64) _ _ _ 1 [.int .i64 1] from rfl) (dh.one (show Kd.M (Kd.int .i64) _ _ _ 2 [.int .i64 2] from rfl) (dh.one (show Kd.M (Kd.int .i64) _ _ _ 0 [.int .i64 0] from rfl) (dh.one (show Kd.M (Kd.int .i64) _ _ _ 3 [.int .i64 3] from rfl) (dh.none _ _))))) ?_; intro aIR w34 avn hb; have RG := ak (Kd.aC avn (dG (w := w) (g := g) (row := none) (kh HK.out))); replace Nv := rg Nv hb; replace mO := kp mO #[.slice none 0 0, .slice none 0 0, .slice none 0 0] hb; replace su := kp su #[.slice QI Uw.length QJ, .slice none 0 0, .slice none 0 0] hb; replace HK := ak (aJ.trans (kh HK.out) (aJ.of_below hb g none) (.inl rfl)); replace HB := ak (iD oJ hb); replace HI0 := ak (aN.below (show aN w0 (((w30.setCell ⟨J4, 0, none⟩ (.slice QI Uw.length QJ)).setCell ⟨J4, 1, none⟩ (.slice none 0 0)).setCell ⟨J4, 2, none⟩ (.slice none 0 0)) g fB az2 from oI) hb); clear hb avn; obtain ⟨atA, atC, ana⟩ := Kd.aI RG.out; subst ana) | (refine gL 97 25 Tryz.func97 #[.pointer (some ⟨g, 0, none⟩), .slice atA az3.length atC] ?_; (with_reducible refine (jY.calls w0 ?fZ ?jc (cu ((Kd.ay RG.out).2.2)) ((Kd.ay RG.out).2.1) (nU (aN.own_ne HI0.out RG.out (by decide))) A25.out).mono ?_); (case fZ => exact oI); (case jc => exact oJ); rintro e w37 ⟨rfl, hi, hb, hk⟩; refine ⟨_, rfl, ?_⟩; replace mO := kc mO hk yC; replace Nv := ki Nv hk; replace su := kc su hk OB; replace RG := ki RG hk; replace HK := kt HK hk; replace HB := ak (hb); replace HI0 := ak (hi); clear hb; (try clear hk); (try clear hi)))
  go_loopg [6] k (fun kq v6 w' => ∃ (jy : Int) (xA : Int) (zW : List ByteArray) (DW : Value), v6 = .int .i64 jy ∧ ah (iC.l0 kq jy fB xA Uw zW = some (r1, r2, r3, r4)) ∧ ah (kq ≤ k) ∧ ah (Kd.R qI 69 w' w.heap.size (fun _ => True) (.slice QI Uw.length QJ) Uw) ∧ ah (Kd.R Kd.string 9 w' w.heap.size (fun _ => True) DW zW) ∧ ah (w'.heap[RF]? = some (.cells #[(.slice none 0 0), (.slice none 0 0), (.slice none 0 0)] 28 (0, 0))) ∧ ah (w'.heap[J4]? = some (.cells #[(.slice QI Uw.length QJ), DW, (.slice none 0 0)] 28 (0, 0))) ∧ ah (aN w0 w' g fB xA) ∧ ah (aJ w w' g none) ∧ ah (Below w0.heap.size w0 w'))
  case atStart => exact ⟨_, _, _, _, rs, H', ⟨Nat.le_refl _⟩, ⟨ur Nv.out⟩, ⟨nx⟩, ⟨ub mO.out⟩, ⟨ub su.out⟩, ⟨oI⟩, ⟨kh HK.out⟩, ⟨oJ⟩⟩
  case round =>
   clear H'
   try clear c3
   try clear iO
   try clear yK
   obtain ⟨jy, xA, zW, DW, rfl, HA, xI, tV, nV, mO, su, HI0, HK, HB⟩ := hrel
   cases gk with
   | zero => exact zz HA.out
   | succ k1 =>
    obtain ⟨H⟩ := HA
    simp only [iC.l0] at H
    replace H := sp H
    rcases H with ⟨WW, H⟩ | ⟨WW, H⟩
    ·
     have Zj : decide (0 < jy) = true := decide_eq_true WW
     clear WW
     obtain ⟨avo, aeR⟩ := nm ([(⟨#[97]⟩ : ByteArray), (⟨#[]⟩ : ByteArray), (⟨#[116, 101, 120, 116, 32, 111, 102, 32, 97, 32, 108, 105, 110, 101]⟩ : ByteArray), (⟨#[45, 45, 98, 49]⟩ : ByteArray), (⟨#[45, 45, 120]⟩ : ByteArray)] : List ByteArray)
     rw [← aeR.out] at H
     replace H := bd H
     obtain ⟨⟨anL, aIS⟩, A39, H⟩ := H
     (try dsimp only at H)
     replace H := nl H; obtain ⟨Ve, H⟩ := H
     obtain ⟨aIT, akQ⟩ := nm (zW ++ [anL])
     rw [← akQ.out] at H
     have H' := ak H; clear H
     try go_wp2
     replace tV := ak (Kd.fV tV.out)
     replace nV := ak (Kd.fV nV.out)
     replace mO := ak (iQ mO.out)
     replace su := ak (iQ su.out)
     replace HI0 := ak (aN.drew HI0.out)
     replace HK := ak (xW HK.out)
     replace HB := ak (fQ HB.out)
     refine Ce (n := 9) (S := fun w' => w'.cell? ⟨J4, 0, none⟩ = some (.slice QI Uw.length QJ) ∧ w'.cell? ⟨J4, 1, none⟩ = some (DW) ∧ w'.cell? ⟨J4, 2, none⟩ = some (.slice none 0 0)) (ds := [8]) #[false, false, false, false, false, false, false, false, false] (by kernel_rfl) rfl rfl ⟨(aA su.out 0).trans rfl, (aA su.out 1).trans rfl, (aA su.out 2).trans rfl⟩ (fun hHeld => ?_); refine tN iC.abl iC.Rf (fun D8 HW_ => ?_)
     generalize wr.drew = w41 at tV nV mO su HI0 HK HB hHeld ⊢
     refine pl 0 ?_
     refine pl 2 ?_
     refine tk 1 ?_
     refine o1 3 (fun K hK => ?_)
     refine Kd.qC Kd.string _ 9 ?hg (N := 33) ?hd (xs := ([(⟨#[97]⟩ : ByteArray), (⟨#[]⟩ : ByteArray), (⟨#[116, 101, 120, 116, 32, 111, 102, 32, 97, 32, 108, 105, 110, 101]⟩ : ByteArray), (⟨#[45, 45, 98, 49]⟩ : ByteArray), (⟨#[45, 45, 120]⟩ : ByteArray)] : List ByteArray)) (inner := [.string (⟨#[97]⟩ : ByteArray), .string (⟨#[]⟩ : ByteArray), .string (⟨#[116, 101, 120, 116, 32, 111, 102, 32, 97, 32, 108, 105, 110, 101]⟩ : ByteArray), .string (⟨#[45, 45, 98, 49]⟩ : ByteArray), .string (⟨#[45, 45, 120]⟩ : ByteArray)]) (ok := fun _ => True) (vM := fun _ => True) ?hr ?hp (fun _ hk => hk) trivial (Below.refl _ _) (Nat.le_refl _) (by simp) ?_; (case hd => rfl); (case hg => rfl); (case hr => first | (go_simp; done) | (go_simp; rfl)); (case hp => exact (dh.one (show Kd.M Kd.string _ _ _ (⟨#[97]⟩ : ByteArray) [.string (⟨#[97]⟩ : ByteArray)] from rfl) (dh.one (show Kd.M Kd.string _ _ _ (⟨#[]⟩ : ByteArray) [.string (⟨#[]⟩ : ByteArray)] from rfl) (dh.one (show Kd.M Kd.string _ _ _ (⟨#[116, 101, 120, 116, 32, 111, 102, 32, 97, 32, 108, 105, 110, 101]⟩ : ByteArray) [.string (⟨#[116, 101, 120, 116, 32, 111, 102, 32, 97, 32, 108, 105, 110, 101]⟩ : ByteArray)] from rfl) (dh.one (show Kd.M Kd.string _ _ _ (⟨#[45, 45, 98, 49]⟩ : ByteArray) [.string (⟨#[45, 45, 98, 49]⟩ : ByteArray)] from rfl) (dh.one (show Kd.M Kd.string _ _ _ (⟨#[45, 45, 120]⟩ : ByteArray) [.string (⟨#[45, 45, 120]⟩ : ByteArray)] from rfl) (dh.none _ _)))))))
     intro aIU w42 QN hb CB vS
     clear CB vS
     (first | rw [← aeR.out] at QN | (simp only [Int.reduceToNat] at QN; rw [← aeR.out] at QN))
     have Hg := ak (Kd.aC (Kd.dR QN (Kd.jh (ur nV.out))) (dG (w := w) (g := g) (row := none) (kh HK.out)))
     replace tV := rb tV hb
     replace nV := ak (Kd.bH (ur nV.out) (Kd.bZ QN) hb)
     replace mO := kb mO hb
     replace su := kb su hb
     replace HK := ak (aJ.trans (kh HK.out) (aJ.of_below hb g none) (.inl rfl))
     replace HB := ak (iD oJ hb)
     replace HI0 := ak (aN.below oI hb)
     clear hb QN
     obtain ⟨aby, abz, VD⟩ := Kd.aI Hg.out
     (first | subst VD | (injection VD with oM uz oN; have uD := oM.symm; have uF := oN.symm; clear oM uz oN; subst uD; subst uF))
     refine hK.out _ _ sx (fun hHeld => ?_)
     clear hK K
     refine nrm ?_
     refine o1 4 (fun K hK => ?_)
     refine yN Tryz.func58 (by kernel_rfl) rfl #[.pointer (some ⟨g, 0, none⟩), .slice aby avo.length abz] (by rfl) rfl rfl ma ?_
     with_reducible refine (fH.calls w0 ?fZ ?jc ?yO ?CG ?yP A39.out).mono ?_
     (case fZ => exact oI)
     (case jc => exact oJ)
     (case yO => repeat (first | exact (Kd.ay Hg.out).2.2 | (with_reducible refine Kd.ni ?_ _) | (with_reducible refine Kd.nC ?_ _) | (with_reducible refine Kd.pY ?_)))
     (case CG => exact (Kd.ay Hg.out).2.1)
     (case yP => exact nU (aN.own_ne HI0.out Hg.out (by decide)))
     rintro e w45 ⟨rfl, hi, hb, hk⟩
     refine ⟨_, rfl, ?_⟩
     replace tV := ki tV hk
     replace nV := ki nV hk
     replace mO := kc mO hk yC
     replace su := kc su hk OB
     replace Hg := ki Hg hk
     replace HK := kt HK hk
     replace HB := ak (hb)
     replace HI0 := ak (hi)
     try clear hb
     try clear hk
     try clear hi
     refine hK.out _ _ sx (fun hHeld => ?_)
     clear hK K
     refine nrm ?_
     refine o1 5 (fun K hK => ?_)
     refine Ci (w1 := ?_) (v := ?_) (by rfl) rfl ?_ ?_
     rotate_left 2
     ·
      go_simp
      constructor
      ·
       rfl
      ·
       rfl
     refine hK.out _ _ ⟨(aA (iV su.out _) 0).trans rfl, (aA (iV su.out _) 1).trans rfl, (aA (iV su.out _) 2).trans rfl⟩ (fun hHeld => ?_)
     clear hK K
     refine nrm ?_
     refine o1 6 (fun K hK => ?_)
     refine Kd.nJ Kd.string w.heap.size (by rfl) (.tmp 31) (.tmp 35) 23 9 (.string ⟨#[]⟩) 16 rfl Tryz.underlying23 info9 rfl (by decide) (by omega) DW zW anL [.string anL] (fun k_ => some k_ ≠ (.slice aby avo.length abz : Value).ownBlock) (fun _ => False) rfl rfl ?aP (fun _ hk => hk.elim) ?aF ?aO (Below.refl _ _) ?aS ?aL ?_
     (case aP => exact rfl)
     (case aF => exact (fun k_ hk => Kd.fresh' (Kd.jh (ur Hg.out)) k_ hk))
     (case aO => exact (ur (Kd.aY nV.out (fun _ hk => hk.2))))
     (case aS => exact (dG (w := w) (g := g) (row := none) (kh HK.out)))
     (case aL => have := Ve.out; omega)
     intro aIV w46 ho hb hg hat
     rw [← akQ.out] at ho
     have yQ := ak (Kd.qc (ur tV.out) (Kd.kG (ur nV.out)) (by decide) hg)
     have yR := ak (cZ (g := RF) (o := .cells #[.slice none 0 0, .slice none 0 0, .slice none 0 0] 28 (0, 0)) (ub mO.out) hg (Kd.oG nV.out mO.out (by decide)))
     have zB := ak (cZ (g := J4) (o := .cells #[.slice QI Uw.length QJ, DW, .slice none 0 0] 28 (0, 0)) (ub su.out) hg (Kd.oG nV.out su.out (by decide)))
     have CJ := ak (aN.grown oI hg (aN.own_ne HI0.out nV.out (by decide)))
     have GX := ak (Kd.zI (ok := (fun _ => True)) (ur Hg.out) hg hat)
     have IZ := ak (uZ oJ HL.out hb)
     have MN := ak (aJ.trans (kh HK.out) (aJ.yS hg g) (Kd.F5 nV.out))
     have Rh := ak (ho)
     clear tV mO su HI0 Hg HB HK nV
     have tV := yQ
     have mO := yR
     have su := zB
     have HI0 := CJ
     have Hg := GX
     have HB := IZ
     have HK := MN
     have avp := Rh
     clear yQ yR zB CJ GX IZ MN Rh ho hb hg hat
     obtain ⟨amk, aml, agO⟩ := Kd.aI avp.out
     (first | subst agO | (injection agO with oM uz oN; have uD := oM.symm; have uF := oN.symm; clear oM uz oN; subst uD; subst uF))
     refine hK.out _ _ sx (fun hHeld => ?_)
     clear hK K
     refine nrm ?_
     refine pl 7 ?_
     refine GY (i := 8) (N := none) #[true, true, true, true, true, true, true, true, true] rfl rfl (Ac D8.out (by kernel_rfl)) (by decide) (fun K hK => ?_)
     have aIW : w46.cell? ⟨J4, 1, none⟩ = some (DW) := (aA su.out 1).trans rfl
     have aCU := gY su.out 1
     have awZ := LJ.out
     have aw0 := LK.out
     refine GZ (w1 := ?_) (by rfl) rfl ?_ ?_
     rotate_left
     ·
      go_simp
      rfl
     refine hK.out _ _ ?_
     clear hK K
     refine G5 (yA D8.out (by kernel_rfl)) ?_
     try go_wp2
     go_roundg k1
     case measure => exact kl
     case rel => exact ⟨_, _, _, _, rs, H', ⟨kl⟩, ⟨rr⟩, ⟨rr⟩, ⟨bq⟩, ⟨bq⟩, ⟨oI⟩, ⟨kh HK.out⟩, ⟨oJ⟩⟩
    ·
     have Zj : decide (0 < jy) = false := decide_eq_false WW
     clear WW
     obtain ⟨rfl, rfl, rfl, rfl⟩ := s4 H
     have aCV := LK.out
     have aCW := LJ.out
     have aCX := OB.out
     have aCY := aav.out
     have z51 := kK su.out
     have aCZ := yC.out
     have aC0 := Uu.out
     have z53 := kK mO.out
     obtain ⟨atU, atV, anj⟩ := Kd.aI nV.out
     subst anj
     go_wp2
     refine bodyPost_ret (results_cell_row rfl _ _ RF 28 #[.slice QI Uw.length QJ, .slice atU zW.length atV, .slice none 0 0] (0, 0) _ rfl bq Tryz.underlying28 rfl (by kernel_rfl)) rfl ?_
     exact ⟨_, _, _, er, rr, rr, nx, oI, oJ, kh HK.out⟩
mutual
def dX.j0 : Nat → Int → Bool → List Int → Int → Option ((List (gX)) × List ByteArray × (List (nG)) × Int)
 | 0, _, _, _, _ => none
 | k + 1, x1, TI, x1000, oC => if TI = true then ((iC.f k x1000 oC).bind fun aaw => (some (aaw.1, aaw.2.1, aaw.2.2.1, aaw.2.2.2))) else ((fH.f k x1000 oC (([(⟨#[109, 117, 108, 116, 105, 112, 97, 114, 116, 47, 109, 105, 120, 101, 100, 59, 32, 98, 111, 117, 110, 100, 97, 114, 121, 61, 98, 48]⟩ : ByteArray), (⟨#[77, 117, 108, 116, 105, 112, 97, 114, 116, 47, 97, 108, 116, 101, 114, 110, 97, 116, 105, 118, 101, 59, 32, 66, 111, 117, 110, 100, 97, 114, 121, 61, 98, 50]⟩ : ByteArray), (⟨#[109, 117, 108, 116, 105, 112, 97, 114, 116, 47, 109, 105, 120, 101, 100, 59, 32, 98, 111, 117, 110, 100, 97, 114, 121, 61, 120, 121, 122]⟩ : ByteArray)] : List ByteArray))).bind fun akR => ((jY.f k x1000 akR.2 (([2, 1, 3] : List Int))).bind fun akS => (dX.l0 k x1 akS.1 x1000 akS.2 (([(⟨(⟨#[83, 117, 98, 106, 101, 99, 116]⟩ : ByteArray), (⟨#[109, 97, 110, 121]⟩ : ByteArray)⟩ : gX), (⟨(⟨#[67, 111, 110, 116, 101, 110, 116, 45, 84, 121, 112, 101]⟩ : ByteArray), akR.1⟩ : gX)] : List (gX))) ([] : List (nG)))))
def dX.l0 : Nat → Int → Int → List Int → Int → List (gX) → List (nG) → Option ((List (gX)) × List ByteArray × (List (nG)) × Int)
 | 0, _, _, _, _, _, _ => none
 | k + 1, x1, x6, x1000, oC, aax, Ux => if x6 > 0 then ((dX.f k x1000 oC (wrap64 (x1 - 1))).bind fun aay => (if Ux.length < 1954687338268 then (dX.l0 k x1 (wrap64 (x6 - 1)) x1000 aay.2.2.2 aax (Ux ++ [(⟨aay.1, aay.2.1, aay.2.2.1⟩ : nG)])) else (none))) else (some (aax, ([] : List ByteArray), Ux, oC))
def dX.f : Nat → List Int → Int → Int → Option ((List (gX)) × List ByteArray × (List (nG)) × Int)
 | 0, _, _, _ => none
 | k + 1, fB, ku, a1 => if a1 < 2 then (dX.j0 k a1 true fB ku) else ((b_.f k fB ku 2).bind fun akT => (dX.j0 k a1 (akT.1 == 0) fB akT.2))
end
def dX.T7 : Bool × List (List Nat × List Nat) := (true, [([], []), ([0], [0]), ([], []), ([], []), ([3], [3]), ([2, 4], [2, 4]), ([5], [5]), ([1, 6, 5], [1, 6]), ([0, 1, 2, 3, 4, 5, 6, 7], []), ([8, 7, 7, 0, 1, 2, 3, 4, 5, 6, 7], [7, 8])])
def dX.B7 : List Nat := [0, 1, 0, 0, 8, 28, 60, 127, 255, 511]
theorem dX.arB : rU .any (opsOf Tryz.f56 7) = dX.T7 := by kernel_rfl
theorem dX.ai6 : nD dX.T7.2 dX.B7 = true := by kernel_rfl
theorem dX.calls (k : Nat) : ∀ (g : Nat) (fB : List Int) (ku : Int) (a1 : Int) (r1 : List (gX)) (r2 : List ByteArray) (r3 : List (nG)) (r4 : Int) (w0 w : World) (hI : aN w0 w g fB ku) (hB : Below w0.heap.size w0 w) (h : dX.f k fB ku a1 = some (r1, r2, r3, r4)),
  Calls Tryz.prog 56 #[.pointer (some ⟨g, 0, none⟩), .int .i64 a1] w fun e w' => ∃ oV Di EG : Value, e = .returned (.agg #[oV, Di, EG]) ∧ Kd.R qI 69 w' w.heap.size (fun _ => True) oV r1 ∧ Kd.R Kd.string 9 w' w.heap.size (fun _ => True) Di r2 ∧ Kd.R k28 28 w' w.heap.size (fun k_ => some k_ ≠ (oV : Value).ownBlock ∧ some k_ ≠ (Di : Value).ownBlock) EG r3 ∧ aN w0 w' g fB r4 ∧ Below w0.heap.size w0 w' ∧ aJ w w' g none := by
 induction k using Nat.strongRecOn with
 | _ k ih =>
 intro g fB ku a1 r1 r2 r3 r4 w0 w hI hB h
 cases k with
 | zero => exact absurd h (by simp [dX.f])
 | succ k =>
 simp only [dX.f] at h
 have EH := Tryz.underlying28
 have Dn := Tryz.underlying69
 have HI0 := ak hI
 have HK := ak (aJ.refl w g none)
 have HL := ak hB.size
 clear hI
 have HW0 := ak hB.size
 have HB := ak hB
 clear hB
 have H := h
 clear h
 have OU := ak H
 clear H
 go_enter Tryz.func56, Tryz.ntmps56
 go_upto_region 1 with (refine bS HI0 HK HB HW0 4 #[.slice none 0 0, .slice none 0 0, .slice none 0 0] 28 ?_; clear HI0 HK HB; intro Ak w4 og aC1 aC2 aaz DX hg hb HI0 HK HB; clear hb hg)
 (try simp only [Act.put, yT, yU, l_c])
 go_cut [13] (fun v13 wc => ∃ (kq : Nat) (aeS : Bool) (zN : Int), v13 = .bool aeS ∧ ah (dX.j0 kq a1 aeS fB zN = some (r1, r2, r3, r4)) ∧ ah (kq ≤ k) ∧ ah (wc.heap[Ak]? = some (.cells #[(.slice none 0 0), (.slice none 0 0), (.slice none 0 0)] 28 (0, 0))) ∧ ah (aN w0 wc g fB zN) ∧ ah (aJ w wc g none) ∧ ah (Below w0.heap.size w0 wc))
 case first =>
  have H := OU.out
  clear OU
  replace H := sd H
  rcases H with ⟨mW, H⟩ | ⟨mW, H⟩
  ·
   (first | rw [mW] | (simp only [iK, jI]; rw [mW]) | skip)
   have H' := ak H; clear H
   go_wp2
   go_meet
   case rel => exact ⟨_, _, _, rs, H', ⟨IL⟩, ⟨ub og.out⟩, ⟨oI⟩, ⟨kh HK.out⟩, ⟨oJ⟩⟩
  ·
   (first | rw [mW] | (simp only [iK, jI]; rw [mW]) | skip)
   replace H := bd H
   obtain ⟨⟨aIX, aIY⟩, A6, H⟩ := H
   (try dsimp only at H)
   have H' := ak H; clear H
   go_wp2_with (go_at_call 57; (with_reducible refine (b_.calls w0 ?fZ ?jc A6.out).mono ?_); (case fZ => exact oI); (case jc => exact oJ); rintro e w7 ⟨rfl, hi, hb, hk⟩; replace og := kc og hk DX; replace HK := kt HK hk; replace HB := ak (hb); replace HI0 := ak (hi); clear hb; (try clear hk); (try clear hi))
   go_meet
   case rel => exact ⟨_, _, _, rs, H', ⟨IL⟩, ⟨ub og.out⟩, ⟨oI⟩, ⟨kh HK.out⟩, ⟨oJ⟩⟩
 case rest =>
  clear OU
  obtain ⟨kq, aeS, zN, rfl, HA, HJ2, og, HI0, HK, HB⟩ := hcut
  cases kq with
  | zero => exact zz HA.out
  | succ YD =>
   obtain ⟨H⟩ := HA
   simp only [dX.j0] at H
   replace H := sb H
   rcases H with ⟨rfl, H⟩ | ⟨rfl, H⟩
   ·
    replace H := bd H
    obtain ⟨⟨az4, az5, az6, aIZ⟩, A9, H⟩ := H
    (try dsimp only at H)
    obtain ⟨rfl, rfl, rfl, rfl⟩ := s4 H
    go_wp2_with (refine gL 98 15 Tryz.func98 #[.pointer (some ⟨g, 0, none⟩)] ?_; (with_reducible refine (iC.calls w0 ?fZ ?jc A9.out).mono ?_); (case fZ => exact oI); (case jc => exact oJ); rintro e w10 ⟨aI0, aI1, aI2, rfl, ho0, ho1, ho2, hi, hb, hk⟩; refine ⟨_, rfl, ?_⟩; have avq := ak (Kd.aC ho0 (dG (w := w) (g := g) (row := none) (kh HK.out))); have avr := ak (Kd.aC ho1 (dG (w := w) (g := g) (row := none) (kh HK.out))); have avs := ak (Kd.aC (Kd.nH ho2 (g := Ak) (o := .cells #[.slice none 0 0, .slice none 0 0, .slice none 0 0] 28 (0, 0)) (ub og.out)) (dG (w := w) (g := g) (row := none) (kh HK.out))); replace og := kc og hk DX; replace HK := kt HK hk; replace HB := ak (hb); replace HI0 := ak (hi); clear hb; (try clear hk); (try clear hi); (try clear ho0); (try clear ho1); (try clear ho2); obtain ⟨yc, wM, PI⟩ := Kd.aI avq.out; subst PI; have aC3 := DX.out; have aC4 := aaz.out; have z13 := kK og.out; obtain ⟨abh, abj, Xa⟩ := Kd.aI avr.out; subst Xa; obtain ⟨KZ, K_, S9⟩ := Kd.aI avs.out; subst S9)
    refine bodyPost_ret (results_cell_row rfl _ _ Ak 28 #[.slice yc az4.length wM, .slice abh az5.length abj, .slice KZ az6.length K_] (0, 0) _ rfl bq Tryz.underlying28 rfl (by kernel_rfl)) rfl ?_
    exact ⟨_, _, _, er, rr, rr, rr, oI, oJ, kh HK.out⟩
   ·
    obtain ⟨az7, akU⟩ := nm ([(⟨#[109, 117, 108, 116, 105, 112, 97, 114, 116, 47, 109, 105, 120, 101, 100, 59, 32, 98, 111, 117, 110, 100, 97, 114, 121, 61, 98, 48]⟩ : ByteArray), (⟨#[77, 117, 108, 116, 105, 112, 97, 114, 116, 47, 97, 108, 116, 101, 114, 110, 97, 116, 105, 118, 101, 59, 32, 66, 111, 117, 110, 100, 97, 114, 121, 61, 98, 50]⟩ : ByteArray), (⟨#[109, 117, 108, 116, 105, 112, 97, 114, 116, 47, 109, 105, 120, 101, 100, 59, 32, 98, 111, 117, 110, 100, 97, 114, 121, 61, 120, 121, 122]⟩ : ByteArray)] : List ByteArray)
    rw [← akU.out] at H
    replace H := bd H
    obtain ⟨⟨aeT, az8⟩, ZE, H⟩ := H
    (try dsimp only at H)
    obtain ⟨Ii, akV⟩ := nm ([(⟨(⟨#[83, 117, 98, 106, 101, 99, 116]⟩ : ByteArray), (⟨#[109, 97, 110, 121]⟩ : ByteArray)⟩ : gX), (⟨(⟨#[67, 111, 110, 116, 101, 110, 116, 45, 84, 121, 112, 101]⟩ : ByteArray), aeT⟩ : gX)] : List (gX))
    rw [← akV.out] at H
    obtain ⟨az9, akW⟩ := nm ([2, 1, 3] : List Int)
    rw [← akW.out] at H
    replace H := bd H
    obtain ⟨⟨aI3, aI4⟩, A17, H⟩ := H
    (try dsimp only at H)
    have H' := ak H; clear H
    go_wp2_with (first | (refine QD 18 Kd.string 9 [.string (⟨#[109, 117, 108, 116, 105, 112, 97, 114, 116, 47, 109, 105, 120, 101, 100, 59, 32, 98, 111, 117, 110, 100, 97, 114, 121, 61, 98, 48]⟩ : ByteArray), .string (⟨#[77, 117, 108, 116, 105, 112, 97, 114, 116, 47, 97, 108, 116, 101, 114, 110, 97, 116, 105, 118, 101, 59, 32, 66, 111, 117, 110, 100, 97, 114, 121, 61, 98, 50]⟩ : ByteArray), .string (⟨#[109, 117, 108, 116, 105, 112, 97, 114, 116, 47, 109, 105, 120, 101, 100, 59, 32, 98, 111, 117, 110, 100, 97, 114, 121, 61, 120, 121, 122]⟩ : ByteArray)] akU (dh.one (show Kd.M Kd.string _ _ _ (⟨#[109, 117, 108, 116, 105, 112, 97, 114, 116, 47, 109, 105, 120, 101, 100, 59, 32, 98, 111, 117, 110, 100, 97, 114, 121, 61, 98, 48]⟩ : ByteArray) [.string (⟨#[109, 117, 108, 116, 105, 112, 97, 114, 116, 47, 109, 105, 120, 101, 100, 59, 32, 98, 111, 117, 110, 100, 97, 114, 121, 61, 98, 48]⟩ : ByteArray)] from rfl) (dh.one (show Kd.M Kd.string _ _ _ (⟨#[77, 117, 108, 116, 105, 112, 97, 114, 116, 47, 97, 108, 116, 101, 114, 110, 97, 116, 105, 118, 101, 59, 32, 66, 111, 117, 110, 100, 97, 114, 121, 61, 98, 50]⟩ : ByteArray) [.string (⟨#[77, 117, 108, 116, 105, 112, 97, 114, 116, 47, 97, 108, 116, 101, 114, 110, 97, 116, 105, 118, 101, 59, 32, 66, 111, 117, 110, 100, 97, 114, 121, 61, 98, 50]⟩ : ByteArray)] from rfl) (dh.one (show Kd.M Kd.string _ _ _ (⟨#[109, 117, 108, 116, 105, 112, 97, 114, 116, 47, 109, 105, 120, 101, 100, 59, 32, 98, 111, 117, 110, 100, 97, 114, 121, 61, 120, 121, 122]⟩ : ByteArray) [.string (⟨#[109, 117, 108, 116, 105, 112, 97, 114, 116, 47, 109, 105, 120, 101, 100, 59, 32, 98, 111, 117, 110, 100, 97, 114, 121, 61, 120, 121, 122]⟩ : ByteArray)] from rfl) (dh.none _ _)))) ?_; intro aI5 w18 avt hb; have BL := ak (Kd.aC avt (dG (w := w) (g := g) (row := none) (kh HK.out))); replace og := kb og hb; replace HK := ak (aJ.trans (kh HK.out) (aJ.of_below hb g none) (.inl rfl)); replace HB := ak (iD oJ hb); replace HI0 := ak (aN.below oI hb); clear hb avt; obtain ⟨NM, NP, Tj⟩ := Kd.aI BL.out; subst Tj) | (refine gL 58 19 Tryz.func58 #[.pointer (some ⟨g, 0, none⟩), .slice NM az7.length NP] ?_; (with_reducible refine (fH.calls w0 ?fZ ?jc (cu ((Kd.ay BL.out).2.2)) ((Kd.ay BL.out).2.1) (nU (aN.own_ne HI0.out BL.out (by decide))) ZE.out).mono ?_); (case fZ => exact oI); (case jc => exact oJ); rintro e w21 ⟨rfl, hi, hb, hk⟩; refine ⟨_, rfl, ?_⟩; replace og := kc og hk DX; replace BL := ki BL hk; replace HK := kt HK hk; replace HB := ak (hb); replace HI0 := ak (hi); clear hb; (try clear hk); (try clear hi)) | (refine QD 21 qI 69 [.string (⟨#[83, 117, 98, 106, 101, 99, 116]⟩ : ByteArray), .string (⟨#[109, 97, 110, 121]⟩ : ByteArray), .string (⟨#[67, 111, 110, 116, 101, 110, 116, 45, 84, 121, 112, 101]⟩ : ByteArray), .string aeT] akV (dh.c2 (show Kd.M qI _ _ _ (⟨(⟨#[83, 117, 98, 106, 101, 99, 116]⟩ : ByteArray), (⟨#[109, 97, 110, 121]⟩ : ByteArray)⟩ : gX) [.string (⟨#[83, 117, 98, 106, 101, 99, 116]⟩ : ByteArray), .string (⟨#[109, 97, 110, 121]⟩ : ByteArray)] from (vW _ _ _ (⟨(⟨#[83, 117, 98, 106, 101, 99, 116]⟩ : ByteArray), (⟨#[109, 97, 110, 121]⟩ : ByteArray)⟩ : gX) )) (dh.c2 (show Kd.M qI _ _ _ (⟨(⟨#[67, 111, 110, 116, 101, 110, 116, 45, 84, 121, 112, 101]⟩ : ByteArray), aeT⟩ : gX) [.string (⟨#[67, 111, 110, 116, 101, 110, 116, 45, 84, 121, 112, 101]⟩ : ByteArray), .string aeT] from (vW _ _ _ (⟨(⟨#[67, 111, 110, 116, 101, 110, 116, 45, 84, 121, 112, 101]⟩ : ByteArray), aeT⟩ : gX) )) (dh.none _ _))) ?_; intro aI6 YX avu hb; have Nw := ak (Kd.aC avu (dG (w := w) (g := g) (row := none) (kh HK.out))); replace BL := rb BL hb; replace og := kb og hb; replace HK := ak (aJ.trans (kh HK.out) (aJ.of_below hb g none) (.inl rfl)); replace HB := ak (iD oJ hb); replace HI0 := ak (aN.below oI hb); clear hb avu; obtain ⟨JQ, JR, ang⟩ := Kd.aI Nw.out; subst ang) | (refine bS HI0 HK HB HW0 5 #[.slice none 0 0, .slice none 0 0, .slice none 0 0] 28 ?_; clear HI0 HK HB; intro BM w25 rP aC5 aC6 aaA OC hg hb HI0 HK HB; have LM := Ba og hg; have LP := Bc og hg; replace BL := rb BL hb; replace Nw := rb Nw hb; replace og := kb og hb; clear hb hg; have avv := LP.out; have avw := LM.out; have ajD := OC.out; have ajE := aaA.out; have aJv := kK rP.out) | (refine QD 24 (Kd.int .i64) 3 [.int .i64 2, .int .i64 1, .int .i64 3] akW (dh.one (show Kd.M (Kd.int .i64) _ _ _ 2 [.int .i64 2] from rfl) (dh.one (show Kd.M (Kd.int .i64) _ _ _ 1 [.int .i64 1] from rfl) (dh.one (show Kd.M (Kd.int .i64) _ _ _ 3 [.int .i64 3] from rfl) (dh.none _ _)))) ?_; intro aI7 w29 V8 hb; have RH := ak (Kd.aC V8 (dG (w := w) (g := g) (row := none) (kh HK.out))); replace BL := rg BL hb; replace Nw := rg Nw hb; replace og := kp og #[.slice none 0 0, .slice none 0 0, .slice none 0 0] hb; replace rP := kp rP #[.slice JQ Ii.length JR, .slice none 0 0, .slice none 0 0] hb; replace HK := ak (aJ.trans (kh HK.out) (aJ.of_below hb g none) (.inl rfl)); replace HB := ak (iD oJ hb); replace HI0 := ak (aN.below (show aN w0 (((w25.setCell ⟨BM, 0, none⟩ (.slice JQ Ii.length JR)).setCell ⟨BM, 1, none⟩ (.slice none 0 0)).setCell ⟨BM, 2, none⟩ (.slice none 0 0)) g fB az8 from oI) hb); clear hb V8; obtain ⟨aha, ahb, abJ⟩ := Kd.aI RH.out; subst abJ) | (refine gL 97 25 Tryz.func97 #[.pointer (some ⟨g, 0, none⟩), .slice aha az9.length ahb] ?_; (with_reducible refine (jY.calls w0 ?fZ ?jc (cu ((Kd.ay RH.out).2.2)) ((Kd.ay RH.out).2.1) (nU (aN.own_ne HI0.out RH.out (by decide))) A17.out).mono ?_); (case fZ => exact oI); (case jc => exact oJ); rintro e w32 ⟨rfl, hi, hb, hk⟩; refine ⟨_, rfl, ?_⟩; replace og := kc og hk DX; replace BL := ki BL hk; replace Nw := ki Nw hk; replace rP := kc rP hk OC; replace RH := ki RH hk; replace HK := kt HK hk; replace HB := ak (hb); replace HI0 := ak (hi); clear hb; (try clear hk); (try clear hi)))
    go_loopg [6] YD (fun kq v6 w' => ∃ (Bd : Int) (zN : Int) (yg : List (nG)) (yD : Value), v6 = .int .i64 Bd ∧ ah (dX.l0 kq a1 Bd fB zN Ii yg = some (r1, r2, r3, r4)) ∧ ah (kq ≤ YD) ∧ ah (Kd.R qI 69 w' w.heap.size (fun _ => True) (.slice JQ Ii.length JR) Ii) ∧ ah (Kd.R k28 28 w' w.heap.size (fun k_ => some k_ ≠ ((.slice JQ Ii.length JR) : Value).ownBlock ∧ k_ ≠ Ak ∧ k_ ≠ BM) yD yg) ∧ ah (w'.heap[Ak]? = some (.cells #[(.slice none 0 0), (.slice none 0 0), (.slice none 0 0)] 28 (0, 0))) ∧ ah (w'.heap[BM]? = some (.cells #[(.slice JQ Ii.length JR), (.slice none 0 0), yD] 28 (0, 0))) ∧ ah (aN w0 w' g fB zN) ∧ ah (aJ w w' g none) ∧ ah (Below w0.heap.size w0 w'))
    case atStart => exact ⟨_, _, _, _, rs, H', ⟨Nat.le_refl _⟩, ⟨ur Nw.out⟩, ⟨nx⟩, ⟨ub og.out⟩, ⟨ub rP.out⟩, ⟨oI⟩, ⟨kh HK.out⟩, ⟨oJ⟩⟩
    case round =>
     clear H'
     try clear c2
     obtain ⟨Bd, zN, yg, yD, rfl, HA, MJ, qM, m_, og, rP, HI0, HK, HB⟩ := hrel
     cases gk with
     | zero => exact zz HA.out
     | succ k2 =>
      obtain ⟨H⟩ := HA
      simp only [dX.l0] at H
      replace H := sp H
      rcases H with ⟨c33, H⟩ | ⟨c33, H⟩
      ·
       have Rk : decide (0 < Bd) = true := decide_eq_true c33
       clear c33
       replace H := bd H
       obtain ⟨⟨aeU, aeV, aeW, az_⟩, A34, H⟩ := H
       (try dsimp only at H)
       replace H := nl H; obtain ⟨adl, H⟩ := H
       obtain ⟨aI8, akX⟩ := nm (yg ++ [(⟨aeU, aeV, aeW⟩ : nG)])
       rw [← akX.out] at H
       have H' := ak H; clear H
       try go_wp2
       replace qM := ak (Kd.fV qM.out)
       replace m_ := ak (Kd.fV m_.out)
       replace og := ak (iQ og.out)
       replace rP := ak (iQ rP.out)
       replace HI0 := ak (aN.drew HI0.out)
       replace HK := ak (xW HK.out)
       replace HB := ak (fQ HB.out)
       refine Ce (n := 10) (S := fun w' => w'.cell? ⟨BM, 0, none⟩ = some (.slice JQ Ii.length JR) ∧ w'.cell? ⟨BM, 1, none⟩ = some (.slice none 0 0) ∧ w'.cell? ⟨BM, 2, none⟩ = some (yD)) (ds := [9]) #[false, false, false, false, false, false, false, false, false, false] (by kernel_rfl) rfl rfl ⟨(aA rP.out 0).trans rfl, (aA rP.out 1).trans rfl, (aA rP.out 2).trans rfl⟩ (fun hHeld => ?_); refine tN dX.arB dX.ai6 (fun D8 HW_ => ?_)
       generalize wr.drew = w36 at qM m_ og rP HI0 HK HB hHeld ⊢
       refine pl 0 ?_
       refine pl 2 ?_
       refine pl 3 ?_
       refine pl 4 ?_
       refine tk 1 ?_
       refine o1 5 (fun K hK => ?_)
       refine yN Tryz.func56 (by kernel_rfl) rfl #[.pointer (some ⟨g, 0, none⟩), .int .i64 (wrap64 (a1 - 1))] (by rfl) rfl rfl ma ?_
       with_reducible refine (ih k2 (by have := HJ2.out; have := MJ.out; omega) g fB zN (wrap64 (a1 - 1)) aeU aeV aeW az_ w0 _ ?fZ ?jc A34.out).mono ?_
       (case fZ => exact oI)
       (case jc => exact oJ)
       rintro e w37 ⟨aI9, aI_, aJa, rfl, ho0, ho1, ho2, hi, hb, hk⟩
       refine ⟨_, rfl, ?_⟩
       have aeX := ak (Kd.aC (Kd.dR ho0 (Kd.jh (ur qM.out))) (dG (w := w) (g := g) (row := none) (kh HK.out)))
       have aeY := ak (Kd.aC ho1 (dG (w := w) (g := g) (row := none) (kh HK.out)))
       have aeZ := ak (Kd.aC (Kd.nH (Kd.nH (Kd.dR (Kd.dR ho2 (Kd.jh (ur qM.out))) (Kd.jh (ur m_.out))) (g := Ak) (o := .cells #[.slice none 0 0, .slice none 0 0, .slice none 0 0] 28 (0, 0)) (ub og.out)) (g := BM) (o := .cells #[.slice JQ Ii.length JR, .slice none 0 0, yD] 28 (0, 0)) (ub rP.out)) (dG (w := w) (g := g) (row := none) (kh HK.out)))
       replace qM := kj qM hk ho0
       replace m_ := ak (Kd.aY (Kd.sS (Kd.sS (Kd.sS (Kd.Td (aN.apart (show aN w0 _ g fB zN from oI) (ur m_.out) (by decide)) hk) (Kd.bZ ho0)) (Kd.bZ ho1)) (Kd.bZ ho2)) (fun _ h_ => h_.1))
       replace og := kc og hk DX
       replace rP := kc rP hk OC
       replace HK := kt HK hk
       replace HB := ak (hb)
       replace HI0 := ak (hi)
       try clear hb
       try clear hk
       try clear hi
       try clear ho0
       try clear ho1
       try clear ho2
       obtain ⟨aqI, al5, adM⟩ := Kd.aI aeX.out
       (first | subst adM | (injection adM with oM uz oN; have uD := oM.symm; have uF := oN.symm; clear oM uz oN; subst uD; subst uF))
       obtain ⟨aAa, aAb, avx⟩ := Kd.aI aeY.out
       (first | subst avx | (injection avx with oM uz oN; have uD := oM.symm; have uF := oN.symm; clear oM uz oN; subst uD; subst uF))
       obtain ⟨aAc, aAd, avy⟩ := Kd.aI aeZ.out
       (first | subst avy | (injection avy with oM uz oN; have uD := oM.symm; have uF := oN.symm; clear oM uz oN; subst uD; subst uF))
       refine hK.out _ _ sx (fun hHeld => ?_)
       clear hK K
       refine nrm ?_
       refine o1 6 (fun K hK => ?_)
       refine Ci (w1 := ?_) (v := ?_) (by rfl) rfl ?_ ?_
       rotate_left 2
       ·
        go_simp
        constructor
        ·
         rfl
        ·
         rfl
       refine hK.out _ _ ⟨(aA (iV rP.out _) 0).trans rfl, (aA (iV rP.out _) 1).trans rfl, (aA (iV rP.out _) 2).trans rfl⟩ (fun hHeld => ?_)
       clear hK K
       refine nrm ?_
       refine o1 7 (fun K hK => ?_)
       refine Kd.nJ k28 w.heap.size (by rfl) (.tmp 31) (.tmp 36) 26 28 (.agg #[(.slice none 0 0), (.slice none 0 0), (.slice none 0 0)]) 72 rfl Tryz.underlying26 SN rfl (by decide) (by omega) yD yg (⟨aeU, aeV, aeW⟩ : nG) [.slice aqI aeU.length al5, .slice aAa aeV.length aAb, .slice aAc aeW.length aAd] (fun k_ => some k_ ≠ (.slice JQ Ii.length JR : Value).ownBlock ∧ k_ ≠ Ak ∧ k_ ≠ BM) (fun k_ => ((fun k_ => some k_ ≠ (.slice JQ Ii.length JR : Value).ownBlock ∧ k_ ≠ Ak ∧ k_ ≠ BM)) k_ ∧ some k_ ≠ (yD : Value).ownBlock) rfl rfl ?aP (fun _ hk => hk) ?aF ?aO (Below.refl _ _) ?aS ?aL ?_
       (case aP => exact Oi _ _ _ (⟨aeU, aeV, aeW⟩ : nG) (Kd.aY (Kd.lV (Kd.lV (Kd.oK (aeX.out) (Kd.kG m_.out) (by decide)) og.out (by decide)) rP.out (by decide)) (fun k_ hk => ⟨⟨hk.1.1.1.2, ⟨hk.1.2, hk.2⟩⟩, hk.1.1.2⟩)) (Kd.aY (Kd.lV (Kd.lV (Kd.oK (Kd.oK (aeY.out) (Kd.kG qM.out) (by decide)) (Kd.kG m_.out) (by decide)) og.out (by decide)) rP.out (by decide)) (fun k_ hk => ⟨⟨hk.1.1.1.2, ⟨hk.1.2, hk.2⟩⟩, hk.1.1.2⟩)) (Kd.aY (aeZ.out) (fun k_ hk => ⟨⟨hk.1.1.1.2, ⟨hk.1.2, hk.2⟩⟩, hk.1.1.2⟩)))
       (case aF => exact (fun k_ hk => ⟨Kd.fresh' (Kd.jh (ur qM.out)) k_ hk, Kd.xQ (g := Ak) (o := .cells #[.slice none 0 0, .slice none 0 0, .slice none 0 0] 28 (0, 0)) (ub og.out) k_ hk, Kd.xQ (g := BM) (o := .cells #[.slice JQ Ii.length JR, .slice none 0 0, yD] 28 (0, 0)) (ub rP.out) k_ hk⟩))
       (case aO => exact (ur (Kd.aY m_.out (fun _ hk => ⟨hk.1.1.1.1, ⟨hk.1.1.1.2.1, hk.1.1.1.2.2⟩⟩))))
       (case aS => exact (dG (w := w) (g := g) (row := none) (kh HK.out)))
       (case aL => have := adl.out; omega)
       intro aJb w38 ho hb hg hat
       rw [← akX.out] at ho
       have yQ := ak (Kd.qc (ur qM.out) (Kd.kG (ur m_.out)) (by decide) hg)
       have yR := ak (cZ (g := Ak) (o := .cells #[.slice none 0 0, .slice none 0 0, .slice none 0 0] 28 (0, 0)) (ub og.out) hg (Kd.y8 m_.out (fun _ hk => hk.1.1.1.2.1)))
       have zB := ak (cZ (g := BM) (o := .cells #[.slice JQ Ii.length JR, .slice none 0 0, yD] 28 (0, 0)) (ub rP.out) hg (Kd.y8 m_.out (fun _ hk => hk.1.1.1.2.2)))
       have CJ := ak (aN.grown oI hg (aN.own_ne HI0.out m_.out (by decide)))
       have GX := ak (uZ oJ HL.out hb)
       have IZ := ak (aJ.trans (kh HK.out) (aJ.yS hg g) (Kd.F5 m_.out))
       have MN := ak (ho)
       clear qM og rP HI0 HB HK m_ aeX aeY aeZ
       have qM := yQ
       have og := yR
       have rP := zB
       have HI0 := CJ
       have HB := GX
       have HK := IZ
       have avz := MN
       clear yQ yR zB CJ GX IZ MN ho hb hg hat
       obtain ⟨aqK, aqL, adO⟩ := Kd.aI avz.out
       (first | subst adO | (injection adO with oM uz oN; have uD := oM.symm; have uF := oN.symm; clear oM uz oN; subst uD; subst uF))
       refine hK.out _ _ sx (fun hHeld => ?_)
       clear hK K
       refine nrm ?_
       refine pl 8 ?_
       refine GY (i := 9) (N := none) #[true, true, true, true, true, true, true, true, true, true] rfl rfl (Ac D8.out (by kernel_rfl)) (by decide) (fun K hK => ?_)
       have ayD : w38.cell? ⟨BM, 2, none⟩ = some (yD) := (aA rP.out 2).trans rfl
       have aqM := gY rP.out 2
       have agD := LM.out
       have agE := LP.out
       refine GZ (w1 := ?_) (by rfl) rfl ?_ ?_
       rotate_left
       ·
        go_simp
        rfl
       refine hK.out _ _ ?_
       clear hK K
       refine G5 (yA D8.out (by kernel_rfl)) ?_
       try go_wp2
       go_roundg k2
       case measure => exact kl
       case rel => exact ⟨_, _, _, _, rs, H', ⟨kl⟩, ⟨rr⟩, ⟨rr⟩, ⟨bq⟩, ⟨bq⟩, ⟨oI⟩, ⟨kh HK.out⟩, ⟨oJ⟩⟩
      ·
       have Rk : decide (0 < Bd) = false := decide_eq_false c33
       clear c33
       obtain ⟨rfl, rfl, rfl, rfl⟩ := s4 H
       have aC7 := LP.out
       have aC8 := LM.out
       have aC9 := OC.out
       have aC_ := aaA.out
       have z46 := kK rP.out
       have aie := DX.out
       have aif := aaz.out
       have z48 := kK og.out
       obtain ⟨abu, abv, adP⟩ := Kd.aI m_.out
       subst adP
       go_wp2
       refine bodyPost_ret (results_cell_row rfl _ _ Ak 28 #[.slice JQ Ii.length JR, .slice none 0 0, .slice abu yg.length abv] (0, 0) _ rfl bq Tryz.underlying28 rfl (by kernel_rfl)) rfl ?_
       exact ⟨_, _, _, er, rr, nx, ur (Kd.aY (Kd.lK (p := ⟨Ak, 2, none⟩) (Kd.lK (p := ⟨Ak, 1, none⟩) (Kd.lK (p := ⟨Ak, 0, none⟩) (Kd.aY m_.out (fun k_ hk => (⟨hk, hk.2.1⟩ : _ ∧ k_ ≠ Ak))) (fun _ hk => hk.2) (.slice JQ Ii.length JR)) (fun _ hk => hk.2) (.slice none 0 0)) (fun _ hk => hk.2) (.slice abu yg.length abv)) (fun _ hk => ⟨hk.1.1, (by simp [Value.ownBlock])⟩)), oI, oJ, kh HK.out⟩
end Go.Proofs.YtncdadcmghglkaaGreatDoor.PFnPartLines
