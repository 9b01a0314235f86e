/- Printed walks; conditions: those in each statement. -/
import Derived.Test.YtncdadcmghglkaaGreatDoorVFnPartValidQt
import Derived.Test.YtncdadcmghglkaaGreatDoorVFnPartValidYt
import Derived.Test.YtncdadcmghglkaaGreatDoorPFnPartValidx0
import Derived.Test.YtncdadcmghglkaaGreatDoorPFnPartValidx26
-- short
-- dense
-- sq
-- sq2
namespace Go.Proofs.YtncdadcmghglkaaGreatDoor.PFnPartValid
open Go.RowKit Go.Proofs.YtncdadcmghglkaaGreatDoor.X Go.Proofs.YtncdadcmghglkaaGreatDoorW.bK Go.Proofs.YtncdadcmghglkaaGreatDoorW.gY Go.Proofs.YtncdadcmghglkaaGreatDoorW.iU
attribute [local go_sem] lu lC ng ni jO jP lD lF   -- for this text's walks alone
set_option linter.unusedVariables false
set_option maxHeartbeats 8000000
set_option maxRecDepth 100000
set_option linter.unusedSimpArgs false
def iJ.l0 : Nat → Int → List Int → Int → List (gK) → List ByteArray → Option ((List (gK)) × List ByteArray × (List (mV)) × Int)
 | 0, _, _, _, _, _ => none
 | k + 1, x6, x1000, ql, abY, VO => if x6 > 0 then ((fV.f k x1000 ql (([(⟨#[97]⟩ : ByteArray), (⟨#[]⟩ : ByteArray), (⟨#[116, 101, 120, 116, 32, 111, 102, 32, 97, 32, 108, 105, 110, 101]⟩ : ByteArray), (⟨#[45, 45, 98, 49]⟩ : ByteArray), (⟨#[45, 45, 120]⟩ : ByteArray)] : List ByteArray))).bind fun alp => (if VO.length < 8796093022208 then (iJ.l0 k (wrap64 (x6 - 1)) x1000 alp.2 abY (VO ++ [alp.1])) else (none))) else (some (abY, VO, ([] : List (mV)), ql))
def iJ.f (k : Nat) (fO : List Int) (kZ : Int) : Option ((List (gK)) × List ByteArray × (List (mV)) × Int) := (dF.f k fO kZ 2).bind fun afs => (if afs.1 = 0 then ((fV.f k fO afs.2 (([(⟨#[104, 101, 108, 108, 111]⟩ : ByteArray), (⟨#[90, 111, 195, 171]⟩ : ByteArray), (⟨#[]⟩ : ByteArray)] : List ByteArray))).bind fun alq => ((iT.f k fO alq.2).bind fun alr => ((uo.f k alq.1 alr.1).bind fun aft => (some (aft.1, aft.2.1, aft.2.2.1, alr.2))))) else ((mD.f k fO afs.2).bind fun als => ((kW.f k fO als.2 (([1, 2, 0, 3] : List Int))).bind fun alu => (iJ.l0 k alu.1 fO alu.2 als.1 ([] : List ByteArray)))))
def iJ.T8 : Bool × List (List Nat × List Nat) := (true, [([], []), ([0], [0]), ([], []), ([], []), ([2, 3], [2, 3]), ([4], [4]), ([1, 5, 4], [1, 5]), ([0, 1, 2, 3, 4, 5, 6], []), ([7, 6, 6, 0, 1, 2, 3, 4, 5, 6], [6, 7])])
def iJ.B8 : List Nat := [0, 1, 0, 0, 12, 28, 63, 127, 255]
theorem iJ.ada : uG .any (opsOf Tryz.f98 8) = iJ.T8 := by kernel_rfl
theorem iJ.TT : oH iJ.T8.2 iJ.B8 = true := by kernel_rfl
theorem iJ.calls {k g : Nat} {fO : List Int} {kZ r4 : Int} {r1 : List (gK)} {r2 : List ByteArray} {r3 : List (mV)} {w : World} (w0 : World) (hI : aI w0 w g fO kZ) (hB : Below w0.heap.size w0 w) (h : iJ.f k fO kZ = some (r1, r2, r3, r4)) :
  Calls Tryz.prog 98 #[.pointer (some ⟨g, 0, none⟩)] w fun e w' => ∃ rY F7 Iw : Value, e = .returned (.agg #[rY, F7, Iw]) ∧ Kd.R pU 69 w' w.heap.size (fun _ => True) rY r1 ∧ Kd.R Kd.string 9 w' w.heap.size (fun _ => True) F7 r2 ∧ Kd.R k28 28 w' w.heap.size (fun k_ => some k_ ≠ (rY : Value).ownBlock ∧ some k_ ≠ (F7 : Value).ownBlock) Iw r3 ∧ aI w0 w' g fO r4 ∧ Below w0.heap.size w0 w' ∧ aJ w w' g none := by
 have Et := Tryz.underlying28
 have HI0 := ak hI
 have HK := ak (aJ.refl w g none)
 have HL := ak hB.size
 clear hI
 have HW0 := ak hB.size
 have HB := ak hB
 clear hB
 unfold iJ.f at h; have H := h
 clear h
 replace H := bd H
 obtain ⟨⟨aHS, aHT⟩, A2, H⟩ := H
 (try dsimp only at H)
 replace H := sq H
 rcases H with ⟨iP, yU, H⟩ | ⟨c3, iP, yU, H⟩
 ·
  obtain ⟨az7, alv⟩ := nm ([(⟨#[104, 101, 108, 108, 111]⟩ : ByteArray), (⟨#[90, 111, 195, 171]⟩ : ByteArray), (⟨#[]⟩ : ByteArray)] : List ByteArray)
  rw [← alv.out] at H
  replace H := bd H
  obtain ⟨⟨az8, aHU⟩, A4, H⟩ := H
  (try dsimp only at H)
  replace H := bd H
  obtain ⟨⟨az9, aHV⟩, A5, H⟩ := H
  (try dsimp only at H)
  replace H := bd H
  obtain ⟨⟨az_, aAa, aAb, aHW⟩, A6, H⟩ := H
  (try dsimp only at H)
  obtain ⟨rfl, rfl, rfl, rfl⟩ := s4 H
  go_enter Tryz.func98, Tryz.ntmps98
  go_wp2_with (first | (refine bS HI0 HK HB HW0 2 #[.slice none 0 0, .slice none 0 0, .slice none 0 0] 28 ?_; clear HI0 HK HB; intro Uc w7 nV auI auJ VP zU hg hb HI0 HK HB; clear hb hg) | (refine gL 57 8 Tryz.func57 #[.pointer (some ⟨g, 0, none⟩), .int .i64 2] ?_; (with_reducible refine (dF.calls w0 ?gJ ?jf A2.out).mono ?_); (case gJ => exact pX); (case jf => exact pY); rintro e w8 ⟨rfl, hi, hb, hk⟩; refine ⟨_, rfl, ?_⟩; replace nV := kc nV hk zU; replace HK := kt HK hk; replace HB := ak (hb); replace HI0 := ak (hi); clear hb; (try clear hk); (try clear hi)) | (refine SX 12 Kd.string 9 [.string (⟨#[104, 101, 108, 108, 111]⟩ : ByteArray), .string (⟨#[90, 111, 195, 171]⟩ : ByteArray), .string (⟨#[]⟩ : ByteArray)] alv (dK.one (show Kd.M Kd.string _ _ _ (⟨#[104, 101, 108, 108, 111]⟩ : ByteArray) [.string (⟨#[104, 101, 108, 108, 111]⟩ : ByteArray)] from rfl) (dK.one (show Kd.M Kd.string _ _ _ (⟨#[90, 111, 195, 171]⟩ : ByteArray) [.string (⟨#[90, 111, 195, 171]⟩ : ByteArray)] from rfl) (dK.one (show Kd.M Kd.string _ _ _ (⟨#[]⟩ : ByteArray) [.string (⟨#[]⟩ : ByteArray)] from rfl) (dK.none _ _)))) ?_; intro aHX w9 PE hb; have Dh := ak (Kd.aG PE (dR (w := w) (g := g) (row := none) (kh HK.out))); replace nV := kb nV hb; replace HK := ak (aJ.trans (kh HK.out) (aJ.of_below hb g none) (.inl rfl)); replace HB := ak (iL pY hb); replace HI0 := ak (aI.below pX hb); clear hb PE; obtain ⟨pq, oK, NQ⟩ := Kd.aX Dh.out; subst NQ) | (refine gL 58 13 Tryz.func58 #[.pointer (some ⟨g, 0, none⟩), .slice pq az7.length oK] ?_; (with_reducible refine (fV.calls w0 ?gJ ?jf (cu ((Kd.au Dh.out).2.2)) ((Kd.au Dh.out).2.1) (oz (aI.own_ne HI0.out Dh.out (by decide))) A4.out).mono ?_); (case gJ => exact pX); (case jf => exact pY); rintro e w12 ⟨rfl, hi, hb, hk⟩; refine ⟨_, rfl, ?_⟩; replace nV := kc nV hk zU; replace Dh := ki Dh hk; replace HK := kt HK hk; replace HB := ak (hb); replace HI0 := ak (hi); clear hb; (try clear hk); (try clear hi)) | (refine gL 143 15 Tryz.func143 #[.pointer (some ⟨g, 0, none⟩)] ?_; (with_reducible refine (iT.calls w0 ?gJ ?jf A5.out).mono ?_); (case gJ => exact pX); (case jf => exact pY); rintro e w13 ⟨rfl, hi, hb, hk⟩; refine ⟨_, rfl, ?_⟩; replace nV := kc nV hk zU; replace Dh := ki Dh hk; replace HK := kt HK hk; replace HB := ak (hb); replace HI0 := ak (hi); clear hb; (try clear hk); (try clear hi)) | (refine gL 142 16 Tryz.func142 #[.string az8, .string az9] ?_; (with_reducible refine (uo.calls A6.out).mono ?_); rintro e Tc ⟨aHY, aHZ, aH0, rfl, ho0, ho1, ho2, hb⟩; refine ⟨_, rfl, ?_⟩; have afu := ak (Kd.aG ho0 (dR (w := w) (g := g) (row := none) (kh HK.out))); have afv := ak (Kd.aG (Kd.fK ho1 (Kd.jH (ur Dh.out))) (dR (w := w) (g := g) (row := none) (kh HK.out))); have afw := ak (Kd.aG (Kd.oI (Kd.fK ho2 (Kd.jH (ur Dh.out))) (g := Uc) (o := .cells #[.slice none 0 0, .slice none 0 0, .slice none 0 0] 28 (0, 0)) (ub nV.out)) (dR (w := w) (g := g) (row := none) (kh HK.out))); replace Dh := ak (Kd.fA (ur Dh.out) (Kd.eH ho1) hb); replace nV := kb nV hb; replace HK := ak (aJ.trans (kh HK.out) (aJ.of_below hb g none) (.inl rfl)); replace HB := ak (iL pY hb); replace HI0 := ak (aI.below pX hb); clear hb; (try clear ho0); (try clear ho1); (try clear ho2)) | (refine bS HI0 HK HB HW0 3 #[.slice none 0 0, .slice none 0 0, .slice none 0 0] 28 ?_; clear HI0 HK HB; intro auK w15 auL aCW aCX aiO aiP hg hb HI0 HK HB; have adu := Au nV hg; have adv := Aw nV hg; replace Dh := rb Dh hb; replace afu := rb afu hb; replace afv := rb afv hb; replace afw := ak (Kd.rD (Kd.wB (ur afw.out) auK (Nat.le_of_eq hg.symm)) hb); replace nV := kb nV hb; clear hb hg; obtain ⟨adl, adn, Zx⟩ := Kd.aX afu.out; subst Zx; have alx := adv.out; have aly := adu.out; have alz := aiP.out; have alA := aiO.out; have z19 := ku auL.out; obtain ⟨NU, NV, VJ⟩ := Kd.aX afv.out; subst VJ; obtain ⟨JH, JI, U3⟩ := Kd.aX afw.out; subst U3; have aCY := zU.out; have aCZ := VP.out; have z23 := ku nV.out))
  refine bodyPost_ret (results_cell_row rfl _ _ Uc 28 #[.slice adl az_.length adn, .slice NU aAa.length NV, .slice JH aAb.length JI] (0, 0) _ rfl bq Tryz.underlying28 rfl (by kernel_rfl)) rfl ?_
  exact ⟨_, _, _, er, rr, rr, rr, pX, pY, kh HK.out⟩
 ·
  replace H := bd H
  obtain ⟨⟨VQ, aAc⟩, X3, H⟩ := H
  (try dsimp only at H)
  obtain ⟨aAd, alB⟩ := nm ([1, 2, 0, 3] : List Int)
  rw [← alB.out] at H
  replace H := bd H
  obtain ⟨⟨aH1, aH2⟩, A25, H⟩ := H
  (try dsimp only at H)
  have H' := ak H; clear H
  go_enter Tryz.func98, Tryz.ntmps98
  go_wp2_with (first | (refine bS HI0 HK HB HW0 2 #[.slice none 0 0, .slice none 0 0, .slice none 0 0] 28 ?_; clear HI0 HK HB; intro Uc w26 nV auI auJ VP zU hg hb HI0 HK HB; clear hb hg) | (refine gL 57 8 Tryz.func57 #[.pointer (some ⟨g, 0, none⟩), .int .i64 2] ?_; (with_reducible refine (dF.calls w0 ?gJ ?jf A2.out).mono ?_); (case gJ => exact pX); (case jf => exact pY); rintro e w27 ⟨rfl, hi, hb, hk⟩; refine ⟨_, rfl, ?_⟩; replace nV := kc nV hk zU; replace HK := kt HK hk; replace HB := ak (hb); replace HI0 := ak (hi); clear hb; (try clear hk); (try clear hi)) | (refine gL 144 21 Tryz.func144 #[.pointer (some ⟨g, 0, none⟩)] ?_; (with_reducible refine (mD.calls w0 ?gJ ?jf X3.out).mono ?_); (case gJ => exact pX); (case jf => exact pY); rintro e w28 ⟨aH3, rfl, ho0, hi, hb, hk⟩; refine ⟨_, rfl, ?_⟩; have O1 := ak (Kd.aG ho0 (dR (w := w) (g := g) (row := none) (kh HK.out))); replace nV := kc nV hk zU; replace HK := kt HK hk; replace HB := ak (hb); replace HI0 := ak (hi); clear hb; (try clear hk); (try clear hi); (try clear ho0); obtain ⟨VR, VT, aiQ⟩ := Kd.aX O1.out; subst aiQ) | (refine bS HI0 HK HB HW0 5 #[.slice none 0 0, .slice none 0 0, .slice none 0 0] 28 ?_; clear HI0 HK HB; intro KY w30 uM aC0 aC1 abZ Qi hg hb HI0 HK HB; have NW := Au nV hg; have NY := Aw nV hg; replace O1 := rb O1 hb; replace nV := kb nV hb; clear hb hg; have aC2 := NY.out; have aC3 := NW.out; have alC := Qi.out; have alD := abZ.out; have z33 := ku uM.out) | (refine SX 24 (Kd.int .i64) 3 [.int .i64 1, .int .i64 2, .int .i64 0, .int .i64 3] alB (dK.one (show Kd.M (Kd.int .i64) _ _ _ 1 [.int .i64 1] from rfl) (dK.one (show Kd.M (Kd.int .i64) _ _ _ 2 [.int .i64 2] from rfl) (dK.one (show Kd.M (Kd.int .i64) _ _ _ 0 [.int .i64 0] from rfl) (dK.one (show Kd.M (Kd.int .i64) _ _ _ 3 [.int .i64 3] from rfl) (dK.none _ _))))) ?_; intro aH4 w34 auM hb; have Ud := ak (Kd.aG auM (dR (w := w) (g := g) (row := none) (kh HK.out))); replace O1 := rg O1 hb; replace nV := kp nV #[.slice none 0 0, .slice none 0 0, .slice none 0 0] hb; replace uM := kp uM #[.slice VR VQ.length VT, .slice none 0 0, .slice none 0 0] hb; replace HK := ak (aJ.trans (kh HK.out) (aJ.of_below hb g none) (.inl rfl)); replace HB := ak (iL pY hb); replace HI0 := ak (aI.below (show aI w0 (((w30.setCell ⟨KY, 0, none⟩ (.slice VR VQ.length VT)).setCell ⟨KY, 1, none⟩ (.slice none 0 0)).setCell ⟨KY, 2, none⟩ (.slice none 0 0)) g fO aAc from pX) hb); clear hb auM; obtain ⟨asK, asL, anY⟩ := Kd.aX Ud.out; subst anY) | (refine gL 97 25 Tryz.func97 #[.pointer (some ⟨g, 0, none⟩), .slice asK aAd.length asL] ?_; (with_reducible refine (kW.calls w0 ?gJ ?jf (cu ((Kd.au Ud.out).2.2)) ((Kd.au Ud.out).2.1) (oz (aI.own_ne HI0.out Ud.out (by decide))) A25.out).mono ?_); (case gJ => exact pX); (case jf => exact pY); rintro e w37 ⟨rfl, hi, hb, hk⟩; refine ⟨_, rfl, ?_⟩; replace nV := kc nV hk zU; replace O1 := ki O1 hk; replace uM := kc uM hk Qi; replace Ud := ki Ud hk; replace HK := kt HK hk; replace HB := ak (hb); replace HI0 := ak (hi); clear hb; (try clear hk); (try clear hi)))
  go_loopg [6] k (fun kq v6 w' => ∃ (jW : Int) (y9 : Int) (Bo : List ByteArray) (EJ : Value), v6 = .int .i64 jW ∧ ah (iJ.l0 kq jW fO y9 VQ Bo = some (r1, r2, r3, r4)) ∧ ah (kq ≤ k) ∧ ah (Kd.R pU 69 w' w.heap.size (fun _ => True) (.slice VR VQ.length VT) VQ) ∧ ah (Kd.R Kd.string 9 w' w.heap.size (fun _ => True) EJ Bo) ∧ ah (w'.heap[Uc]? = some (.cells #[(.slice none 0 0), (.slice none 0 0), (.slice none 0 0)] 28 (0, 0))) ∧ ah (w'.heap[KY]? = some (.cells #[(.slice VR VQ.length VT), EJ, (.slice none 0 0)] 28 (0, 0))) ∧ ah (aI w0 w' g fO y9) ∧ ah (aJ w w' g none) ∧ ah (Below w0.heap.size w0 w'))
  case atStart => exact ⟨_, _, _, _, rs, H', ⟨Nat.le_refl _⟩, ⟨ur O1.out⟩, ⟨nx⟩, ⟨ub nV.out⟩, ⟨ub uM.out⟩, ⟨pX⟩, ⟨kh HK.out⟩, ⟨pY⟩⟩
  case round =>
   clear H'
   try clear c3
   try clear iP
   try clear yU
   obtain ⟨jW, y9, Bo, EJ, rfl, HA, yB, vG, o8, nV, uM, HI0, HK, HB⟩ := hrel
   cases gk with
   | zero => exact zz HA.out
   | succ k1 =>
    obtain ⟨H⟩ := HA
    simp only [iJ.l0] at H
    replace H := sp H
    rcases H with ⟨YN, H⟩ | ⟨YN, H⟩
    ·
     have abS : decide (0 < jW) = true := decide_eq_true YN
     clear YN
     obtain ⟨auN, afx⟩ := nm ([(⟨#[97]⟩ : ByteArray), (⟨#[]⟩ : ByteArray), (⟨#[116, 101, 120, 116, 32, 111, 102, 32, 97, 32, 108, 105, 110, 101]⟩ : ByteArray), (⟨#[45, 45, 98, 49]⟩ : ByteArray), (⟨#[45, 45, 120]⟩ : ByteArray)] : List ByteArray)
     rw [← afx.out] at H
     replace H := bd H
     obtain ⟨⟨aoA, aH5⟩, A39, H⟩ := H
     (try dsimp only at H)
     replace H := nl H; obtain ⟨XD, H⟩ := H
     obtain ⟨aH6, alE⟩ := nm (Bo ++ [aoA])
     rw [← alE.out] at H
     have H' := ak H; clear H
     try go_wp2
     replace vG := ak (Kd.jX vG.out)
     replace o8 := ak (Kd.jX o8.out)
     replace nV := ak (bH nV.out)
     replace uM := ak (bH uM.out)
     replace HI0 := ak (aI.drew HI0.out)
     replace HK := ak (zI HK.out)
     replace HB := ak (iy HB.out)
     refine DL (n := 9) (S := fun w' => w'.cell? ⟨KY, 0, none⟩ = some (.slice VR VQ.length VT) ∧ w'.cell? ⟨KY, 1, none⟩ = some (EJ) ∧ w'.cell? ⟨KY, 2, none⟩ = some (.slice none 0 0)) (ds := [8]) #[false, false, false, false, false, false, false, false, false] (by kernel_rfl) rfl rfl ⟨(aA uM.out 0).trans rfl, (aA uM.out 1).trans rfl, (aA uM.out 2).trans rfl⟩ (fun hHeld => ?_); refine vF iJ.ada iJ.TT (fun vk Za => ?_)
     generalize wr.drew = w41 at vG o8 nV uM HI0 HK HB hHeld ⊢
     refine pl 0 ?_
     refine pl 2 ?_
     refine tk 1 ?_
     refine o1 3 (fun K hK => ?_)
     refine Kd.sD Kd.string _ 9 ?hg (N := 33) ?hd (xs := ([(⟨#[97]⟩ : ByteArray), (⟨#[]⟩ : ByteArray), (⟨#[116, 101, 120, 116, 32, 111, 102, 32, 97, 32, 108, 105, 110, 101]⟩ : ByteArray), (⟨#[45, 45, 98, 49]⟩ : ByteArray), (⟨#[45, 45, 120]⟩ : ByteArray)] : List ByteArray)) (inner := [.string (⟨#[97]⟩ : ByteArray), .string (⟨#[]⟩ : ByteArray), .string (⟨#[116, 101, 120, 116, 32, 111, 102, 32, 97, 32, 108, 105, 110, 101]⟩ : ByteArray), .string (⟨#[45, 45, 98, 49]⟩ : ByteArray), .string (⟨#[45, 45, 120]⟩ : ByteArray)]) (ok := fun _ => True) (xC := fun _ => True) ?hr ?hp (fun _ hk => hk) trivial (Below.refl _ _) (Nat.le_refl _) (by simp) ?_; (case hd => rfl); (case hg => rfl); (case hr => first | (go_simp; done) | (go_simp; rfl)); (case hp => exact (dK.one (show Kd.M Kd.string _ _ _ (⟨#[97]⟩ : ByteArray) [.string (⟨#[97]⟩ : ByteArray)] from rfl) (dK.one (show Kd.M Kd.string _ _ _ (⟨#[]⟩ : ByteArray) [.string (⟨#[]⟩ : ByteArray)] from rfl) (dK.one (show Kd.M Kd.string _ _ _ (⟨#[116, 101, 120, 116, 32, 111, 102, 32, 97, 32, 108, 105, 110, 101]⟩ : ByteArray) [.string (⟨#[116, 101, 120, 116, 32, 111, 102, 32, 97, 32, 108, 105, 110, 101]⟩ : ByteArray)] from rfl) (dK.one (show Kd.M Kd.string _ _ _ (⟨#[45, 45, 98, 49]⟩ : ByteArray) [.string (⟨#[45, 45, 98, 49]⟩ : ByteArray)] from rfl) (dK.one (show Kd.M Kd.string _ _ _ (⟨#[45, 45, 120]⟩ : ByteArray) [.string (⟨#[45, 45, 120]⟩ : ByteArray)] from rfl) (dK.none _ _)))))))
     intro aH7 w42 Ti hb CX xJ
     clear CX xJ
     (first | rw [← afx.out] at Ti | (simp only [Int.reduceToNat] at Ti; rw [← afx.out] at Ti))
     have IL := ak (Kd.aG (Kd.fK Ti (Kd.jH (ur o8.out))) (dR (w := w) (g := g) (row := none) (kh HK.out)))
     replace vG := rb vG hb
     replace o8 := ak (Kd.fA (ur o8.out) (Kd.eH Ti) hb)
     replace nV := kb nV hb
     replace uM := kb uM hb
     replace HK := ak (aJ.trans (kh HK.out) (aJ.of_below hb g none) (.inl rfl))
     replace HB := ak (iL pY hb)
     replace HI0 := ak (aI.below pX hb)
     clear hb Ti
     obtain ⟨BF, BG, Xp⟩ := Kd.aX IL.out
     (first | subst Xp | (injection Xp with sQ yO sS; have yP := sQ.symm; have yQ := sS.symm; clear sQ yO sS; subst yP; subst yQ))
     refine hK.out _ _ sx (fun hHeld => ?_)
     clear hK K
     refine nrm ?_
     refine o1 4 (fun K hK => ?_)
     refine Ac Tryz.func58 (by kernel_rfl) rfl #[.pointer (some ⟨g, 0, none⟩), .slice BF auN.length BG] (by rfl) rfl rfl ma ?_
     with_reducible refine (fV.calls w0 ?gJ ?jf ?Af ?D7 ?Ag A39.out).mono ?_
     (case gJ => exact pX)
     (case jf => exact pY)
     (case Af => repeat (first | exact (Kd.au IL.out).2.2 | (with_reducible refine Kd.pV ?_ _) | (with_reducible refine Kd.pW ?_ _) | (with_reducible refine Kd.sU ?_)))
     (case D7 => exact (Kd.au IL.out).2.1)
     (case Ag => exact oz (aI.own_ne HI0.out IL.out (by decide)))
     rintro e w45 ⟨rfl, hi, hb, hk⟩
     refine ⟨_, rfl, ?_⟩
     replace vG := ki vG hk
     replace o8 := ki o8 hk
     replace nV := kc nV hk zU
     replace uM := kc uM hk Qi
     replace IL := ki IL hk
     replace HK := kt HK hk
     replace HB := ak (hb)
     replace HI0 := ak (hi)
     try clear hb
     try clear hk
     try clear hi
     refine hK.out _ _ sx (fun hHeld => ?_)
     clear hK K
     refine nrm ?_
     refine o1 5 (fun K hK => ?_)
     refine DN (w1 := ?_) (v := ?_) (by rfl) rfl ?_ ?_
     rotate_left 2
     ·
      go_simp
      constructor
      ·
       rfl
      ·
       rfl
     refine hK.out _ _ ⟨(aA (bn uM.out _) 0).trans rfl, (aA (bn uM.out _) 1).trans rfl, (aA (bn uM.out _) 2).trans rfl⟩ (fun hHeld => ?_)
     clear hK K
     refine nrm ?_
     refine o1 6 (fun K hK => ?_)
     refine Kd.oO Kd.string w.heap.size (by rfl) (.tmp 31) (.tmp 35) 23 9 (.string ⟨#[]⟩) 16 rfl Tryz.underlying23 info9 rfl (by decide) (by omega) EJ Bo aoA [.string aoA] (fun k_ => some k_ ≠ (.slice BF auN.length BG : Value).ownBlock) (fun _ => False) rfl rfl ?aP (fun _ hk => hk.elim) ?aF ?aO (Below.refl _ _) ?aS ?aL ?_
     (case aP => exact rfl)
     (case aF => exact (fun k_ hk => Kd.fresh' (Kd.jH (ur IL.out)) k_ hk))
     (case aO => exact (ur (Kd.aY o8.out (fun _ hk => hk.2))))
     (case aS => exact (dR (w := w) (g := g) (row := none) (kh HK.out)))
     (case aL => have := XD.out; omega)
     intro aH8 w46 ho hb hg hat
     rw [← alE.out] at ho
     have xK := ak (Kd.nZ (ur vG.out) (Kd.jM (ur o8.out)) (by decide) hg)
     have xM := ak (bM (g := Uc) (o := .cells #[.slice none 0 0, .slice none 0 0, .slice none 0 0] 28 (0, 0)) (ub nV.out) hg (Kd.nO o8.out nV.out (by decide)))
     have yC := ak (bM (g := KY) (o := .cells #[.slice VR VQ.length VT, EJ, .slice none 0 0] 28 (0, 0)) (ub uM.out) hg (Kd.nO o8.out uM.out (by decide)))
     have Ad := ak (aI.grown pX hg (aI.own_ne HI0.out o8.out (by decide)))
     have C9 := ak (Kd.qo (ok := (fun _ => True)) (ur IL.out) hg hat)
     have D6 := ak (wW pY HL.out hb)
     have Fv := ak (aJ.trans (kh HK.out) (aJ.Ah hg g) (Kd.Hw o8.out))
     have TW := ak (ho)
     clear vG nV uM HI0 IL HB HK o8
     have vG := xK
     have nV := xM
     have uM := yC
     have HI0 := Ad
     have IL := C9
     have HB := D6
     have HK := Fv
     have auO := TW
     clear xK xM yC Ad C9 D6 Fv TW ho hb hg hat
     obtain ⟨am1, am2, ahT⟩ := Kd.aX auO.out
     (first | subst ahT | (injection ahT with sQ yO sS; have yP := sQ.symm; have yQ := sS.symm; clear sQ yO sS; subst yP; subst yQ))
     refine hK.out _ _ sx (fun hHeld => ?_)
     clear hK K
     refine nrm ?_
     refine pl 7 ?_
     refine IE (i := 8) (N := none) #[true, true, true, true, true, true, true, true, true] rfl rfl (pR vk.out (by kernel_rfl)) (by decide) (fun K hK => ?_)
     have aH9 : w46.cell? ⟨KY, 1, none⟩ = some (EJ) := (aA uM.out 1).trans rfl
     have aC4 := iG uM.out 1
     have axY := NW.out
     have axZ := NY.out
     refine IG (w1 := ?_) (by rfl) rfl ?_ ?_
     rotate_left
     ·
      go_simp
      rfl
     refine hK.out _ _ ?_
     clear hK K
     refine II (zT vk.out (by kernel_rfl)) ?_
     try go_wp2
     go_roundg k1
     case measure => exact kl
     case rel => exact ⟨_, _, _, _, rs, H', ⟨kl⟩, ⟨rr⟩, ⟨rr⟩, ⟨bq⟩, ⟨bq⟩, ⟨pX⟩, ⟨kh HK.out⟩, ⟨pY⟩⟩
    ·
     have abS : decide (0 < jW) = false := decide_eq_false YN
     clear YN
     obtain ⟨rfl, rfl, rfl, rfl⟩ := s4 H
     have aC5 := NY.out
     have aC6 := NW.out
     have aC7 := Qi.out
     have aC8 := abZ.out
     have z51 := ku uM.out
     have aC9 := zU.out
     have aC_ := VP.out
     have z53 := ku nV.out
     obtain ⟨aAe, aAf, aAg⟩ := Kd.aX o8.out
     subst aAg
     go_wp2
     refine bodyPost_ret (results_cell_row rfl _ _ Uc 28 #[.slice VR VQ.length VT, .slice aAe Bo.length aAf, .slice none 0 0] (0, 0) _ rfl bq Tryz.underlying28 rfl (by kernel_rfl)) rfl ?_
     exact ⟨_, _, _, er, rr, rr, nx, pX, pY, kh HK.out⟩
mutual
def eX.j0 : Nat → Int → Bool → List Int → Int → Option ((List (gK)) × List ByteArray × (List (mV)) × Int)
 | 0, _, _, _, _ => none
 | k + 1, x1, CO, x1000, ql => if CO = true then ((iJ.f k x1000 ql).bind fun ab1 => (some (ab1.1, ab1.2.1, ab1.2.2.1, ab1.2.2.2))) else ((fV.f k x1000 ql (([(⟨#[109, 117, 108, 116, 105, 112, 97, 114, 116, 47, 109, 105, 120, 101, 100, 59, 32, 98, 111, 117, 110, 100, 97, 114, 121, 61, 98, 48]⟩ : ByteArray), (⟨#[77, 117, 108, 116, 105, 112, 97, 114, 116, 47, 97, 108, 116, 101, 114, 110, 97, 116, 105, 118, 101, 59, 32, 66, 111, 117, 110, 100, 97, 114, 121, 61, 98, 50]⟩ : ByteArray), (⟨#[109, 117, 108, 116, 105, 112, 97, 114, 116, 47, 109, 105, 120, 101, 100, 59, 32, 98, 111, 117, 110, 100, 97, 114, 121, 61, 120, 121, 122]⟩ : ByteArray)] : List ByteArray))).bind fun alF => ((kW.f k x1000 alF.2 (([2, 1, 3] : List Int))).bind fun alG => (eX.l0 k x1 alG.1 x1000 alG.2 (([(⟨(⟨#[83, 117, 98, 106, 101, 99, 116]⟩ : ByteArray), (⟨#[109, 97, 110, 121]⟩ : ByteArray)⟩ : gK), (⟨(⟨#[67, 111, 110, 116, 101, 110, 116, 45, 84, 121, 112, 101]⟩ : ByteArray), alF.1⟩ : gK)] : List (gK))) ([] : List (mV)))))
def eX.l0 : Nat → Int → Int → List Int → Int → List (gK) → List (mV) → Option ((List (gK)) × List ByteArray × (List (mV)) × Int)
 | 0, _, _, _, _, _, _ => none
 | k + 1, x1, x6, x1000, ql, ab3, VU => if x6 > 0 then ((eX.f k x1000 ql (wrap64 (x1 - 1))).bind fun ab4 => (if VU.length < 1954687338268 then (eX.l0 k x1 (wrap64 (x6 - 1)) x1000 ab4.2.2.2 ab3 (VU ++ [(⟨ab4.1, ab4.2.1, ab4.2.2.1⟩ : mV)])) else (none))) else (some (ab3, ([] : List ByteArray), VU, ql))
def eX.f : Nat → List Int → Int → Int → Option ((List (gK)) × List ByteArray × (List (mV)) × Int)
 | 0, _, _, _ => none
 | k + 1, fO, kZ, a1 => if a1 < 2 then (eX.j0 k a1 true fO kZ) else ((dF.f k fO kZ 2).bind fun alH => (eX.j0 k a1 (alH.1 == 0) fO alH.2))
end
def eX.T7 : Bool × List (List Nat × List Nat) := (true, [([], []), ([0], [0]), ([], []), ([], []), ([3], [3]), ([2, 4], [2, 4]), ([5], [5]), ([1, 6, 5], [1, 6]), ([0, 1, 2, 3, 4, 5, 6, 7], []), ([8, 7, 7, 0, 1, 2, 3, 4, 5, 6, 7], [7, 8])])
def eX.B7 : List Nat := [0, 1, 0, 0, 8, 28, 60, 127, 255, 511]
theorem eX.aql : uG .any (opsOf Tryz.f56 7) = eX.T7 := by kernel_rfl
theorem eX.ajQ : oH eX.T7.2 eX.B7 = true := by kernel_rfl
theorem eX.calls (k : Nat) : ∀ (g : Nat) (fO : List Int) (kZ : Int) (a1 : Int) (r1 : List (gK)) (r2 : List ByteArray) (r3 : List (mV)) (r4 : Int) (w0 w : World) (hI : aI w0 w g fO kZ) (hB : Below w0.heap.size w0 w) (h : eX.f k fO kZ a1 = some (r1, r2, r3, r4)),
  Calls Tryz.prog 56 #[.pointer (some ⟨g, 0, none⟩), .int .i64 a1] w fun e w' => ∃ rY F7 Iw : Value, e = .returned (.agg #[rY, F7, Iw]) ∧ Kd.R pU 69 w' w.heap.size (fun _ => True) rY r1 ∧ Kd.R Kd.string 9 w' w.heap.size (fun _ => True) F7 r2 ∧ Kd.R k28 28 w' w.heap.size (fun k_ => some k_ ≠ (rY : Value).ownBlock ∧ some k_ ≠ (F7 : Value).ownBlock) Iw r3 ∧ aI w0 w' g fO r4 ∧ Below w0.heap.size w0 w' ∧ aJ w w' g none := by
 induction k using Nat.strongRecOn with
 | _ k ih =>
 intro g fO kZ a1 r1 r2 r3 r4 w0 w hI hB h
 cases k with
 | zero => exact absurd h (by simp [eX.f])
 | succ k =>
 simp only [eX.f] at h
 have Et := Tryz.underlying28
 have DK := Tryz.underlying69
 have HI0 := ak hI
 have HK := ak (aJ.refl w g none)
 have HL := ak hB.size
 clear hI
 have HW0 := ak hB.size
 have HB := ak hB
 clear hB
 have H := h
 clear h
 have QD := ak H
 clear H
 go_enter Tryz.func56, Tryz.ntmps56
 go_upto_region 1 with (refine bS HI0 HK HB HW0 4 #[.slice none 0 0, .slice none 0 0, .slice none 0 0] 28 ?_; clear HI0 HK HB; intro BK w4 pJ aDa aDb ab5 EK hg hb HI0 HK HB; clear hb hg)
 (try simp only [Act.put, sK, sN, l_c])
 go_cut [13] (fun v13 wc => ∃ (kq : Nat) (afy : Bool) (Bf : Int), v13 = .bool afy ∧ ah (eX.j0 kq a1 afy fO Bf = some (r1, r2, r3, r4)) ∧ ah (kq ≤ k) ∧ ah (wc.heap[BK]? = some (.cells #[(.slice none 0 0), (.slice none 0 0), (.slice none 0 0)] 28 (0, 0))) ∧ ah (aI w0 wc g fO Bf) ∧ ah (aJ w wc g none) ∧ ah (Below w0.heap.size w0 wc))
 case first =>
  have H := QD.out
  clear QD
  replace H := sd H
  rcases H with ⟨nR, H⟩ | ⟨nR, H⟩
  ·
   (first | rw [nR] | (simp only [eu, f_]; rw [nR]) | skip)
   have H' := ak H; clear H
   go_wp2
   go_meet
   case rel => exact ⟨_, _, _, rs, H', ⟨JF⟩, ⟨ub pJ.out⟩, ⟨pX⟩, ⟨kh HK.out⟩, ⟨pY⟩⟩
  ·
   (first | rw [nR] | (simp only [eu, f_]; rw [nR]) | skip)
   replace H := bd H
   obtain ⟨⟨aH_, aIa⟩, A6, H⟩ := H
   (try dsimp only at H)
   have H' := ak H; clear H
   go_wp2_with (go_at_call 57; (with_reducible refine (dF.calls w0 ?gJ ?jf A6.out).mono ?_); (case gJ => exact pX); (case jf => exact pY); rintro e w7 ⟨rfl, hi, hb, hk⟩; replace pJ := kc pJ hk EK; replace HK := kt HK hk; replace HB := ak (hb); replace HI0 := ak (hi); clear hb; (try clear hk); (try clear hi))
   go_meet
   case rel => exact ⟨_, _, _, rs, H', ⟨JF⟩, ⟨ub pJ.out⟩, ⟨pX⟩, ⟨kh HK.out⟩, ⟨pY⟩⟩
 case rest =>
  clear QD
  obtain ⟨kq, afy, Bf, rfl, HA, HJ2, pJ, HI0, HK, HB⟩ := hcut
  cases kq with
  | zero => exact zz HA.out
  | succ WX =>
   obtain ⟨H⟩ := HA
   simp only [eX.j0] at H
   replace H := sb H
   rcases H with ⟨rfl, H⟩ | ⟨rfl, H⟩
   ·
    replace H := bd H
    obtain ⟨⟨aAh, aAi, aAj, aIb⟩, A9, H⟩ := H
    (try dsimp only at H)
    obtain ⟨rfl, rfl, rfl, rfl⟩ := s4 H
    go_wp2_with (refine gL 98 15 Tryz.func98 #[.pointer (some ⟨g, 0, none⟩)] ?_; (with_reducible refine (iJ.calls w0 ?gJ ?jf A9.out).mono ?_); (case gJ => exact pX); (case jf => exact pY); rintro e w10 ⟨aIc, aId, aIe, rfl, ho0, ho1, ho2, hi, hb, hk⟩; refine ⟨_, rfl, ?_⟩; have auP := ak (Kd.aG ho0 (dR (w := w) (g := g) (row := none) (kh HK.out))); have auQ := ak (Kd.aG ho1 (dR (w := w) (g := g) (row := none) (kh HK.out))); have auR := ak (Kd.aG (Kd.oI ho2 (g := BK) (o := .cells #[.slice none 0 0, .slice none 0 0, .slice none 0 0] 28 (0, 0)) (ub pJ.out)) (dR (w := w) (g := g) (row := none) (kh HK.out))); replace pJ := kc pJ hk EK; replace HK := kt HK hk; replace HB := ak (hb); replace HI0 := ak (hi); clear hb; (try clear hk); (try clear hi); (try clear ho0); (try clear ho1); (try clear ho2); obtain ⟨pq, oK, NQ⟩ := Kd.aX auP.out; subst NQ; have asR := EK.out; have asT := ab5.out; have z13 := ku pJ.out; obtain ⟨Xf, Xg, U5⟩ := Kd.aX auQ.out; subst U5; obtain ⟨Nr, Ns, U6⟩ := Kd.aX auR.out; subst U6)
    refine bodyPost_ret (results_cell_row rfl _ _ BK 28 #[.slice pq aAh.length oK, .slice Xf aAi.length Xg, .slice Nr aAj.length Ns] (0, 0) _ rfl bq Tryz.underlying28 rfl (by kernel_rfl)) rfl ?_
    exact ⟨_, _, _, er, rr, rr, rr, pX, pY, kh HK.out⟩
   ·
    obtain ⟨aAk, alI⟩ := nm ([(⟨#[109, 117, 108, 116, 105, 112, 97, 114, 116, 47, 109, 105, 120, 101, 100, 59, 32, 98, 111, 117, 110, 100, 97, 114, 121, 61, 98, 48]⟩ : ByteArray), (⟨#[77, 117, 108, 116, 105, 112, 97, 114, 116, 47, 97, 108, 116, 101, 114, 110, 97, 116, 105, 118, 101, 59, 32, 66, 111, 117, 110, 100, 97, 114, 121, 61, 98, 50]⟩ : ByteArray), (⟨#[109, 117, 108, 116, 105, 112, 97, 114, 116, 47, 109, 105, 120, 101, 100, 59, 32, 98, 111, 117, 110, 100, 97, 114, 121, 61, 120, 121, 122]⟩ : ByteArray)] : List ByteArray)
    rw [← alI.out] at H
    replace H := bd H
    obtain ⟨⟨afz, aAl⟩, A16, H⟩ := H
    (try dsimp only at H)
    obtain ⟨Ji, alJ⟩ := nm ([(⟨(⟨#[83, 117, 98, 106, 101, 99, 116]⟩ : ByteArray), (⟨#[109, 97, 110, 121]⟩ : ByteArray)⟩ : gK), (⟨(⟨#[67, 111, 110, 116, 101, 110, 116, 45, 84, 121, 112, 101]⟩ : ByteArray), afz⟩ : gK)] : List (gK))
    rw [← alJ.out] at H
    obtain ⟨aAm, alK⟩ := nm ([2, 1, 3] : List Int)
    rw [← alK.out] at H
    replace H := bd H
    obtain ⟨⟨aIf, aIg⟩, A17, H⟩ := H
    (try dsimp only at H)
    have H' := ak H; clear H
    go_wp2_with (first | (refine SX 18 Kd.string 9 [.string (⟨#[109, 117, 108, 116, 105, 112, 97, 114, 116, 47, 109, 105, 120, 101, 100, 59, 32, 98, 111, 117, 110, 100, 97, 114, 121, 61, 98, 48]⟩ : ByteArray), .string (⟨#[77, 117, 108, 116, 105, 112, 97, 114, 116, 47, 97, 108, 116, 101, 114, 110, 97, 116, 105, 118, 101, 59, 32, 66, 111, 117, 110, 100, 97, 114, 121, 61, 98, 50]⟩ : ByteArray), .string (⟨#[109, 117, 108, 116, 105, 112, 97, 114, 116, 47, 109, 105, 120, 101, 100, 59, 32, 98, 111, 117, 110, 100, 97, 114, 121, 61, 120, 121, 122]⟩ : ByteArray)] alI (dK.one (show Kd.M Kd.string _ _ _ (⟨#[109, 117, 108, 116, 105, 112, 97, 114, 116, 47, 109, 105, 120, 101, 100, 59, 32, 98, 111, 117, 110, 100, 97, 114, 121, 61, 98, 48]⟩ : ByteArray) [.string (⟨#[109, 117, 108, 116, 105, 112, 97, 114, 116, 47, 109, 105, 120, 101, 100, 59, 32, 98, 111, 117, 110, 100, 97, 114, 121, 61, 98, 48]⟩ : ByteArray)] from rfl) (dK.one (show Kd.M Kd.string _ _ _ (⟨#[77, 117, 108, 116, 105, 112, 97, 114, 116, 47, 97, 108, 116, 101, 114, 110, 97, 116, 105, 118, 101, 59, 32, 66, 111, 117, 110, 100, 97, 114, 121, 61, 98, 50]⟩ : ByteArray) [.string (⟨#[77, 117, 108, 116, 105, 112, 97, 114, 116, 47, 97, 108, 116, 101, 114, 110, 97, 116, 105, 118, 101, 59, 32, 66, 111, 117, 110, 100, 97, 114, 121, 61, 98, 50]⟩ : ByteArray)] from rfl) (dK.one (show Kd.M Kd.string _ _ _ (⟨#[109, 117, 108, 116, 105, 112, 97, 114, 116, 47, 109, 105, 120, 101, 100, 59, 32, 98, 111, 117, 110, 100, 97, 114, 121, 61, 120, 121, 122]⟩ : ByteArray) [.string (⟨#[109, 117, 108, 116, 105, 112, 97, 114, 116, 47, 109, 105, 120, 101, 100, 59, 32, 98, 111, 117, 110, 100, 97, 114, 121, 61, 120, 121, 122]⟩ : ByteArray)] from rfl) (dK.none _ _)))) ?_; intro aIh w18 auS hb; have Di := ak (Kd.aG auS (dR (w := w) (g := g) (row := none) (kh HK.out))); replace pJ := kb pJ hb; replace HK := ak (aJ.trans (kh HK.out) (aJ.of_below hb g none) (.inl rfl)); replace HB := ak (iL pY hb); replace HI0 := ak (aI.below pX hb); clear hb auS; obtain ⟨NU, NV, VJ⟩ := Kd.aX Di.out; subst VJ) | (refine gL 58 19 Tryz.func58 #[.pointer (some ⟨g, 0, none⟩), .slice NU aAk.length NV] ?_; (with_reducible refine (fV.calls w0 ?gJ ?jf (cu ((Kd.au Di.out).2.2)) ((Kd.au Di.out).2.1) (oz (aI.own_ne HI0.out Di.out (by decide))) A16.out).mono ?_); (case gJ => exact pX); (case jf => exact pY); rintro e w21 ⟨rfl, hi, hb, hk⟩; refine ⟨_, rfl, ?_⟩; replace pJ := kc pJ hk EK; replace Di := ki Di hk; replace HK := kt HK hk; replace HB := ak (hb); replace HI0 := ak (hi); clear hb; (try clear hk); (try clear hi)) | (refine SX 21 pU 69 [.string (⟨#[83, 117, 98, 106, 101, 99, 116]⟩ : ByteArray), .string (⟨#[109, 97, 110, 121]⟩ : ByteArray), .string (⟨#[67, 111, 110, 116, 101, 110, 116, 45, 84, 121, 112, 101]⟩ : ByteArray), .string afz] alJ (dK.c2 (show Kd.M pU _ _ _ (⟨(⟨#[83, 117, 98, 106, 101, 99, 116]⟩ : ByteArray), (⟨#[109, 97, 110, 121]⟩ : ByteArray)⟩ : gK) [.string (⟨#[83, 117, 98, 106, 101, 99, 116]⟩ : ByteArray), .string (⟨#[109, 97, 110, 121]⟩ : ByteArray)] from (uU _ _ _ (⟨(⟨#[83, 117, 98, 106, 101, 99, 116]⟩ : ByteArray), (⟨#[109, 97, 110, 121]⟩ : ByteArray)⟩ : gK) )) (dK.c2 (show Kd.M pU _ _ _ (⟨(⟨#[67, 111, 110, 116, 101, 110, 116, 45, 84, 121, 112, 101]⟩ : ByteArray), afz⟩ : gK) [.string (⟨#[67, 111, 110, 116, 101, 110, 116, 45, 84, 121, 112, 101]⟩ : ByteArray), .string afz] from (uU _ _ _ (⟨(⟨#[67, 111, 110, 116, 101, 110, 116, 45, 84, 121, 112, 101]⟩ : ByteArray), afz⟩ : gK) )) (dK.none _ _))) ?_; intro aIi Y8 auT hb; have O4 := ak (Kd.aG auT (dR (w := w) (g := g) (row := none) (kh HK.out))); replace Di := rb Di hb; replace pJ := kb pJ hb; replace HK := ak (aJ.trans (kh HK.out) (aJ.of_below hb g none) (.inl rfl)); replace HB := ak (iL pY hb); replace HI0 := ak (aI.below pX hb); clear hb auT; obtain ⟨NZ, N7, aAn⟩ := Kd.aX O4.out; subst aAn) | (refine bS HI0 HK HB HW0 5 #[.slice none 0 0, .slice none 0 0, .slice none 0 0] 28 ?_; clear HI0 HK HB; intro Dj w25 uD aDc aDd ab6 Qj hg hb HI0 HK HB; have N8 := Au pJ hg; have N9 := Aw pJ hg; replace Di := rb Di hb; replace O4 := rb O4 hb; replace pJ := kb pJ hb; clear hb hg; have auU := N9.out; have auV := N8.out; have akq := Qj.out; have akr := ab6.out; have ajt := ku uD.out) | (refine SX 24 (Kd.int .i64) 3 [.int .i64 2, .int .i64 1, .int .i64 3] alK (dK.one (show Kd.M (Kd.int .i64) _ _ _ 2 [.int .i64 2] from rfl) (dK.one (show Kd.M (Kd.int .i64) _ _ _ 1 [.int .i64 1] from rfl) (dK.one (show Kd.M (Kd.int .i64) _ _ _ 3 [.int .i64 3] from rfl) (dK.none _ _)))) ?_; intro aIj w29 XV hb; have Ue := ak (Kd.aG XV (dR (w := w) (g := g) (row := none) (kh HK.out))); replace Di := rg Di hb; replace O4 := rg O4 hb; replace pJ := kp pJ #[.slice none 0 0, .slice none 0 0, .slice none 0 0] hb; replace uD := kp uD #[.slice NZ Ji.length N7, .slice none 0 0, .slice none 0 0] hb; replace HK := ak (aJ.trans (kh HK.out) (aJ.of_below hb g none) (.inl rfl)); replace HB := ak (iL pY hb); replace HI0 := ak (aI.below (show aI w0 (((w25.setCell ⟨Dj, 0, none⟩ (.slice NZ Ji.length N7)).setCell ⟨Dj, 1, none⟩ (.slice none 0 0)).setCell ⟨Dj, 2, none⟩ (.slice none 0 0)) g fO aAl from pX) hb); clear hb XV; obtain ⟨aox, aoy, aiH⟩ := Kd.aX Ue.out; subst aiH) | (refine gL 97 25 Tryz.func97 #[.pointer (some ⟨g, 0, none⟩), .slice aox aAm.length aoy] ?_; (with_reducible refine (kW.calls w0 ?gJ ?jf (cu ((Kd.au Ue.out).2.2)) ((Kd.au Ue.out).2.1) (oz (aI.own_ne HI0.out Ue.out (by decide))) A17.out).mono ?_); (case gJ => exact pX); (case jf => exact pY); rintro e w32 ⟨rfl, hi, hb, hk⟩; refine ⟨_, rfl, ?_⟩; replace pJ := kc pJ hk EK; replace Di := ki Di hk; replace O4 := ki O4 hk; replace uD := kc uD hk Qj; replace Ue := ki Ue hk; replace HK := kt HK hk; replace HB := ak (hb); replace HI0 := ak (hi); clear hb; (try clear hk); (try clear hi)))
    go_loopg [6] WX (fun kq v6 w' => ∃ (CP : Int) (Bf : Int) (zJ : List (mV)) (zV : Value), v6 = .int .i64 CP ∧ ah (eX.l0 kq a1 CP fO Bf Ji zJ = some (r1, r2, r3, r4)) ∧ ah (kq ≤ WX) ∧ ah (Kd.R pU 69 w' w.heap.size (fun _ => True) (.slice NZ Ji.length N7) Ji) ∧ ah (Kd.R k28 28 w' w.heap.size (fun k_ => some k_ ≠ ((.slice NZ Ji.length N7) : Value).ownBlock ∧ k_ ≠ BK ∧ k_ ≠ Dj) zV zJ) ∧ ah (w'.heap[BK]? = some (.cells #[(.slice none 0 0), (.slice none 0 0), (.slice none 0 0)] 28 (0, 0))) ∧ ah (w'.heap[Dj]? = some (.cells #[(.slice NZ Ji.length N7), (.slice none 0 0), zV] 28 (0, 0))) ∧ ah (aI w0 w' g fO Bf) ∧ ah (aJ w w' g none) ∧ ah (Below w0.heap.size w0 w'))
    case atStart => exact ⟨_, _, _, _, rs, H', ⟨Nat.le_refl _⟩, ⟨ur O4.out⟩, ⟨nx⟩, ⟨ub pJ.out⟩, ⟨ub uD.out⟩, ⟨pX⟩, ⟨kh HK.out⟩, ⟨pY⟩⟩
    case round =>
     clear H'
     try clear c2
     obtain ⟨CP, Bf, zJ, zV, rfl, HA, HK2, tu, oC, pJ, uD, HI0, HK, HB⟩ := hrel
     cases gk with
     | zero => exact zz HA.out
     | succ k2 =>
      obtain ⟨H⟩ := HA
      simp only [eX.l0] at H
      replace H := sp H
      rcases H with ⟨c33, H⟩ | ⟨c33, H⟩
      ·
       have OW : decide (0 < CP) = true := decide_eq_true c33
       clear c33
       replace H := bd H
       obtain ⟨⟨afA, afB, afC, aAo⟩, A34, H⟩ := H
       (try dsimp only at H)
       replace H := nl H; obtain ⟨afD, H⟩ := H
       obtain ⟨aIk, alL⟩ := nm (zJ ++ [(⟨afA, afB, afC⟩ : mV)])
       rw [← alL.out] at H
       have H' := ak H; clear H
       try go_wp2
       replace tu := ak (Kd.jX tu.out)
       replace oC := ak (Kd.jX oC.out)
       replace pJ := ak (bH pJ.out)
       replace uD := ak (bH uD.out)
       replace HI0 := ak (aI.drew HI0.out)
       replace HK := ak (zI HK.out)
       replace HB := ak (iy HB.out)
       refine DL (n := 10) (S := fun w' => w'.cell? ⟨Dj, 0, none⟩ = some (.slice NZ Ji.length N7) ∧ w'.cell? ⟨Dj, 1, none⟩ = some (.slice none 0 0) ∧ w'.cell? ⟨Dj, 2, none⟩ = some (zV)) (ds := [9]) #[false, false, false, false, false, false, false, false, false, false] (by kernel_rfl) rfl rfl ⟨(aA uD.out 0).trans rfl, (aA uD.out 1).trans rfl, (aA uD.out 2).trans rfl⟩ (fun hHeld => ?_); refine vF eX.aql eX.ajQ (fun vk Za => ?_)
       generalize wr.drew = w36 at tu oC pJ uD HI0 HK HB hHeld ⊢
       refine pl 0 ?_
       refine pl 2 ?_
       refine pl 3 ?_
       refine pl 4 ?_
       refine tk 1 ?_
       refine o1 5 (fun K hK => ?_)
       refine Ac Tryz.func56 (by kernel_rfl) rfl #[.pointer (some ⟨g, 0, none⟩), .int .i64 (wrap64 (a1 - 1))] (by rfl) rfl rfl ma ?_
       with_reducible refine (ih k2 (by have := HJ2.out; have := HK2.out; omega) g fO Bf (wrap64 (a1 - 1)) afA afB afC aAo w0 _ ?gJ ?jf A34.out).mono ?_
       (case gJ => exact pX)
       (case jf => exact pY)
       rintro e w37 ⟨aIl, aIm, aIn, rfl, ho0, ho1, ho2, hi, hb, hk⟩
       refine ⟨_, rfl, ?_⟩
       have afE := ak (Kd.aG (Kd.fK ho0 (Kd.jH (ur tu.out))) (dR (w := w) (g := g) (row := none) (kh HK.out)))
       have afF := ak (Kd.aG ho1 (dR (w := w) (g := g) (row := none) (kh HK.out)))
       have afG := ak (Kd.aG (Kd.oI (Kd.oI (Kd.fK (Kd.fK ho2 (Kd.jH (ur tu.out))) (Kd.jH (ur oC.out))) (g := BK) (o := .cells #[.slice none 0 0, .slice none 0 0, .slice none 0 0] 28 (0, 0)) (ub pJ.out)) (g := Dj) (o := .cells #[.slice NZ Ji.length N7, .slice none 0 0, zV] 28 (0, 0)) (ub uD.out)) (dR (w := w) (g := g) (row := none) (kh HK.out)))
       replace tu := kj tu hk ho0
       replace oC := ak (Kd.aY (Kd.qR (Kd.qR (Kd.qR (Kd.NS (aI.apart (show aI w0 _ g fO Bf from pX) (ur oC.out) (by decide)) hk) (Kd.eH ho0)) (Kd.eH ho1)) (Kd.eH ho2)) (fun _ h_ => h_.1))
       replace pJ := kc pJ hk EK
       replace uD := kc uD hk Qj
       replace HK := kt HK hk
       replace HB := ak (hb)
       replace HI0 := ak (hi)
       try clear hb
       try clear hk
       try clear hi
       try clear ho0
       try clear ho1
       try clear ho2
       obtain ⟨auW, aoB, afH⟩ := Kd.aX afE.out
       (first | subst afH | (injection afH with sQ yO sS; have yP := sQ.symm; have yQ := sS.symm; clear sQ yO sS; subst yP; subst yQ))
       obtain ⟨aAp, aAq, auX⟩ := Kd.aX afF.out
       (first | subst auX | (injection auX with sQ yO sS; have yP := sQ.symm; have yQ := sS.symm; clear sQ yO sS; subst yP; subst yQ))
       obtain ⟨aAr, aAs, auY⟩ := Kd.aX afG.out
       (first | subst auY | (injection auY with sQ yO sS; have yP := sQ.symm; have yQ := sS.symm; clear sQ yO sS; subst yP; subst yQ))
       refine hK.out _ _ sx (fun hHeld => ?_)
       clear hK K
       refine nrm ?_
       refine o1 6 (fun K hK => ?_)
       refine DN (w1 := ?_) (v := ?_) (by rfl) rfl ?_ ?_
       rotate_left 2
       ·
        go_simp
        constructor
        ·
         rfl
        ·
         rfl
       refine hK.out _ _ ⟨(aA (bn uD.out _) 0).trans rfl, (aA (bn uD.out _) 1).trans rfl, (aA (bn uD.out _) 2).trans rfl⟩ (fun hHeld => ?_)
       clear hK K
       refine nrm ?_
       refine o1 7 (fun K hK => ?_)
       refine Kd.oO k28 w.heap.size (by rfl) (.tmp 31) (.tmp 36) 26 28 (.agg #[(.slice none 0 0), (.slice none 0 0), (.slice none 0 0)]) 72 rfl Tryz.underlying26 U0 rfl (by decide) (by omega) zV zJ (⟨afA, afB, afC⟩ : mV) [.slice auW afA.length aoB, .slice aAp afB.length aAq, .slice aAr afC.length aAs] (fun k_ => some k_ ≠ (.slice NZ Ji.length N7 : Value).ownBlock ∧ k_ ≠ BK ∧ k_ ≠ Dj) (fun k_ => ((fun k_ => some k_ ≠ (.slice NZ Ji.length N7 : Value).ownBlock ∧ k_ ≠ BK ∧ k_ ≠ Dj)) k_ ∧ some k_ ≠ (zV : Value).ownBlock) rfl rfl ?aP (fun _ hk => hk) ?aF ?aO (Below.refl _ _) ?aS ?aL ?_
       (case aP => exact P8 _ _ _ (⟨afA, afB, afC⟩ : mV) (Kd.aY (Kd.kE (Kd.kE (Kd.qF (afE.out) (Kd.jM oC.out) (by decide)) pJ.out (by decide)) uD.out (by decide)) (fun k_ hk => ⟨⟨hk.1.1.1.2, ⟨hk.1.2, hk.2⟩⟩, hk.1.1.2⟩)) (Kd.aY (Kd.kE (Kd.kE (Kd.qF (Kd.qF (afF.out) (Kd.jM tu.out) (by decide)) (Kd.jM oC.out) (by decide)) pJ.out (by decide)) uD.out (by decide)) (fun k_ hk => ⟨⟨hk.1.1.1.2, ⟨hk.1.2, hk.2⟩⟩, hk.1.1.2⟩)) (Kd.aY (afG.out) (fun k_ hk => ⟨⟨hk.1.1.1.2, ⟨hk.1.2, hk.2⟩⟩, hk.1.1.2⟩)))
       (case aF => exact (fun k_ hk => ⟨Kd.fresh' (Kd.jH (ur tu.out)) k_ hk, Kd.zF (g := BK) (o := .cells #[.slice none 0 0, .slice none 0 0, .slice none 0 0] 28 (0, 0)) (ub pJ.out) k_ hk, Kd.zF (g := Dj) (o := .cells #[.slice NZ Ji.length N7, .slice none 0 0, zV] 28 (0, 0)) (ub uD.out) k_ hk⟩))
       (case aO => exact (ur (Kd.aY oC.out (fun _ hk => ⟨hk.1.1.1.1, ⟨hk.1.1.1.2.1, hk.1.1.1.2.2⟩⟩))))
       (case aS => exact (dR (w := w) (g := g) (row := none) (kh HK.out)))
       (case aL => have := afD.out; omega)
       intro aIo w38 ho hb hg hat
       rw [← alL.out] at ho
       have xK := ak (Kd.nZ (ur tu.out) (Kd.jM (ur oC.out)) (by decide) hg)
       have xM := ak (bM (g := BK) (o := .cells #[.slice none 0 0, .slice none 0 0, .slice none 0 0] 28 (0, 0)) (ub pJ.out) hg (Kd.Az oC.out (fun _ hk => hk.1.1.1.2.1)))
       have yC := ak (bM (g := Dj) (o := .cells #[.slice NZ Ji.length N7, .slice none 0 0, zV] 28 (0, 0)) (ub uD.out) hg (Kd.Az oC.out (fun _ hk => hk.1.1.1.2.2)))
       have Ad := ak (aI.grown pX hg (aI.own_ne HI0.out oC.out (by decide)))
       have C9 := ak (wW pY HL.out hb)
       have D6 := ak (aJ.trans (kh HK.out) (aJ.Ah hg g) (Kd.Hw oC.out))
       have Fv := ak (ho)
       clear tu pJ uD HI0 HB HK oC afE afF afG
       have tu := xK
       have pJ := xM
       have uD := yC
       have HI0 := Ad
       have HB := C9
       have HK := D6
       have auZ := Fv
       clear xK xM yC Ad C9 D6 Fv ho hb hg hat
       obtain ⟨au0, au1, afI⟩ := Kd.aX auZ.out
       (first | subst afI | (injection afI with sQ yO sS; have yP := sQ.symm; have yQ := sS.symm; clear sQ yO sS; subst yP; subst yQ))
       refine hK.out _ _ sx (fun hHeld => ?_)
       clear hK K
       refine nrm ?_
       refine pl 8 ?_
       refine IE (i := 9) (N := none) #[true, true, true, true, true, true, true, true, true, true] rfl rfl (pR vk.out (by kernel_rfl)) (by decide) (fun K hK => ?_)
       have aAt : w38.cell? ⟨Dj, 2, none⟩ = some (zV) := (aA uD.out 2).trans rfl
       have au2 := iG uD.out 2
       have aiR := N8.out
       have aiS := N9.out
       refine IG (w1 := ?_) (by rfl) rfl ?_ ?_
       rotate_left
       ·
        go_simp
        rfl
       refine hK.out _ _ ?_
       clear hK K
       refine II (zT vk.out (by kernel_rfl)) ?_
       try go_wp2
       go_roundg k2
       case measure => exact kl
       case rel => exact ⟨_, _, _, _, rs, H', ⟨kl⟩, ⟨rr⟩, ⟨rr⟩, ⟨bq⟩, ⟨bq⟩, ⟨pX⟩, ⟨kh HK.out⟩, ⟨pY⟩⟩
      ·
       have OW : decide (0 < CP) = false := decide_eq_false c33
       clear c33
       obtain ⟨rfl, rfl, rfl, rfl⟩ := s4 H
       have aDe := N9.out
       have aDf := N8.out
       have aDg := Qj.out
       have aDh := ab6.out
       have z46 := ku uD.out
       have alM := EK.out
       have alN := ab5.out
       have z48 := ku pJ.out
       obtain ⟨adq, adr, afm⟩ := Kd.aX oC.out
       subst afm
       go_wp2
       refine bodyPost_ret (results_cell_row rfl _ _ BK 28 #[.slice NZ Ji.length N7, .slice none 0 0, .slice adq zJ.length adr] (0, 0) _ rfl bq Tryz.underlying28 rfl (by kernel_rfl)) rfl ?_
       exact ⟨_, _, _, er, rr, nx, ur (Kd.aY (Kd.jy (p := ⟨BK, 2, none⟩) (Kd.jy (p := ⟨BK, 1, none⟩) (Kd.jy (p := ⟨BK, 0, none⟩) (Kd.aY oC.out (fun k_ hk => (⟨hk, hk.2.1⟩ : _ ∧ k_ ≠ BK))) (fun _ hk => hk.2) (.slice NZ Ji.length N7)) (fun _ hk => hk.2) (.slice none 0 0)) (fun _ hk => hk.2) (.slice adq zJ.length adr)) (fun _ hk => ⟨hk.1.1, (by simp [Value.ownBlock])⟩)), pX, pY, kh HK.out⟩
end Go.Proofs.YtncdadcmghglkaaGreatDoor.PFnPartValid
