/- Printed walks; conditions: those in each statement. -/
import Derived.Test.YtncdadcmghglkaaGreatDoorVFnKidValidQt
import Derived.Test.YtncdadcmghglkaaGreatDoorVFnKidValidYt
import Derived.Test.YtncdadcmghglkaaGreatDoorPFnKidValidx0
import Derived.Test.YtncdadcmghglkaaGreatDoorPFnKidValidx20
import Derived.Test.YtncdadcmghglkaaGreatDoorPFnKidValidx25
-- short
-- dense
-- sq
-- sq2
namespace Go.Proofs.YtncdadcmghglkaaGreatDoor.PFnKidValid
open Go.RowKit Go.Proofs.YtncdadcmghglkaaGreatDoor.X Go.Proofs.YtncdadcmghglkaaGreatDoorW.bI Go.Proofs.YtncdadcmghglkaaGreatDoorW.gq Go.Proofs.YtncdadcmghglkaaGreatDoorW.iJ
attribute [local go_sem] kJ kK mD mF jv jw kL kM   -- for this text's walks alone
set_option linter.unusedVariables false
set_option maxHeartbeats 8000000
set_option maxRecDepth 100000
set_option linter.unusedSimpArgs false
def iw.l0 : Nat → Int → List Int → Int → List (gU) → List ByteArray → Option ((List (gU)) × List ByteArray × (List (mY)) × Int)
 | 0, _, _, _, _, _ => none
 | k + 1, x6, x1000, oQ, aa0, U1 => if x6 > 0 then ((fE.f k x1000 oQ (([(⟨#[97]⟩ : ByteArray), (⟨#[]⟩ : ByteArray), (⟨#[116, 101, 120, 116, 32, 111, 102, 32, 97, 32, 108, 105, 110, 101]⟩ : ByteArray), (⟨#[45, 45, 98, 49]⟩ : ByteArray), (⟨#[45, 45, 120]⟩ : ByteArray)] : List ByteArray))).bind fun akW => (if U1.length < 8796093022208 then (iw.l0 k (wrap64 (x6 - 1)) x1000 akW.2 aa0 (U1 ++ [akW.1])) else (none))) else (some (aa0, U1, ([] : List (mY)), oQ))
def iw.f (k : Nat) (eY : List Int) (kE : Int) : Option ((List (gU)) × List ByteArray × (List (mY)) × Int) := (cZ.f k eY kE 2).bind fun aeF => (if aeF.1 = 0 then ((fE.f k eY aeF.2 (([(⟨#[104, 101, 108, 108, 111]⟩ : ByteArray), (⟨#[90, 111, 195, 171]⟩ : ByteArray), (⟨#[]⟩ : ByteArray)] : List ByteArray))).bind fun akX => ((iI.f k eY akX.2).bind fun akY => ((sH.f k akX.1 akY.1).bind fun aeG => (some (aeG.1, aeG.2.1, aeG.2.2.1, akY.2))))) else ((lI.f k eY aeF.2).bind fun akZ => ((ku.f k eY akZ.2 (([1, 2, 0, 3] : List Int))).bind fun ak0 => (iw.l0 k ak0.1 eY ak0.2 akZ.1 ([] : List ByteArray)))))
def iw.T8 : Bool × List (List Nat × List Nat) := (true, [([], []), ([0], [0]), ([], []), ([], []), ([2, 3], [2, 3]), ([4], [4]), ([1, 5, 4], [1, 5]), ([0, 1, 2, 3, 4, 5, 6], []), ([7, 6, 6, 0, 1, 2, 3, 4, 5, 6], [6, 7])])
def iw.B8 : List Nat := [0, 1, 0, 0, 12, 28, 63, 127, 255]
theorem iw.acp : sQ .any (opsOf Tryz.f98 8) = iw.T8 := by kernel_rfl
theorem iw.SK : nU iw.T8.2 iw.B8 = true := by kernel_rfl
theorem iw.calls {k g : Nat} {eY : List Int} {kE r4 : Int} {r1 : List (gU)} {r2 : List ByteArray} {r3 : List (mY)} {w : World} (w0 : World) (hI : aK w0 w g eY kE) (hB : Below w0.heap.size w0 w) (h : iw.f k eY kE = some (r1, r2, r3, r4)) :
  Calls Tryz.prog 98 #[.pointer (some ⟨g, 0, none⟩)] w fun e w' => ∃ ql DT E8 : Value, e = .returned (.agg #[ql, DT, E8]) ∧ Kd.R qj 69 w' w.heap.size (fun _ => True) ql r1 ∧ Kd.R Kd.string 9 w' w.heap.size (fun _ => True) DT r2 ∧ Kd.R k28 28 w' w.heap.size (fun k_ => some k_ ≠ (ql : Value).ownBlock ∧ some k_ ≠ (DT : Value).ownBlock) E8 r3 ∧ aK w0 w' g eY r4 ∧ Below w0.heap.size w0 w' ∧ aJ w w' g none := by
 have Dj := Tryz.underlying28
 have HI0 := ak hI
 have HK := ak (aJ.refl w g none)
 have HL := ak hB.size
 clear hI
 have HW0 := ak hB.size
 have HB := ak hB
 clear hB
 unfold iw.f at h; have H := h
 clear h
 replace H := bd H
 obtain ⟨⟨aHR, aHS⟩, A2, H⟩ := H
 (try dsimp only at H)
 replace H := sq H
 rcases H with ⟨iO, Au, H⟩ | ⟨c3, iO, Au, H⟩
 ·
  obtain ⟨azZ, ak1⟩ := nm ([(⟨#[104, 101, 108, 108, 111]⟩ : ByteArray), (⟨#[90, 111, 195, 171]⟩ : ByteArray), (⟨#[]⟩ : ByteArray)] : List ByteArray)
  rw [← ak1.out] at H
  replace H := bd H
  obtain ⟨⟨az0, aHT⟩, A4, H⟩ := H
  (try dsimp only at H)
  replace H := bd H
  obtain ⟨⟨az1, aHU⟩, A5, H⟩ := H
  (try dsimp only at H)
  replace H := bd H
  obtain ⟨⟨az2, az3, az4, aHV⟩, A6, H⟩ := H
  (try dsimp only at H)
  obtain ⟨rfl, rfl, rfl, rfl⟩ := s4 H
  go_enter Tryz.func98, Tryz.ntmps98
  go_wp2_with (first | (refine bS HI0 HK HB HW0 2 #[.slice none 0 0, .slice none 0 0, .slice none 0 0] 28 ?_; clear HI0 HK HB; intro S_ w7 ng atZ at1 U2 yR hg hb HI0 HK HB; clear hb hg) | (refine gL 57 8 Tryz.func57 #[.pointer (some ⟨g, 0, none⟩), .int .i64 2] ?_; (with_reducible refine (cZ.calls w0 ?fU ?iW A2.out).mono ?_); (case fU => exact oZ); (case iW => exact o7); rintro e w8 ⟨rfl, hi, hb, hk⟩; refine ⟨_, rfl, ?_⟩; replace ng := kc ng hk yR; replace HK := kt HK hk; replace HB := ak (hb); replace HI0 := ak (hi); clear hb; (try clear hk); (try clear hi)) | (refine RF 12 Kd.string 9 [.string (⟨#[104, 101, 108, 108, 111]⟩ : ByteArray), .string (⟨#[90, 111, 195, 171]⟩ : ByteArray), .string (⟨#[]⟩ : ByteArray)] ak1 (dD.one (show Kd.M Kd.string _ _ _ (⟨#[104, 101, 108, 108, 111]⟩ : ByteArray) [.string (⟨#[104, 101, 108, 108, 111]⟩ : ByteArray)] from rfl) (dD.one (show Kd.M Kd.string _ _ _ (⟨#[90, 111, 195, 171]⟩ : ByteArray) [.string (⟨#[90, 111, 195, 171]⟩ : ByteArray)] from rfl) (dD.one (show Kd.M Kd.string _ _ _ (⟨#[]⟩ : ByteArray) [.string (⟨#[]⟩ : ByteArray)] from rfl) (dD.none _ _)))) ?_; intro aHW w9 OA hb; have Ce := ak (Kd.aC OA (dI (w := w) (g := g) (row := none) (kh HK.out))); replace ng := kb ng hb; replace HK := ak (aJ.trans (kh HK.out) (aJ.of_below hb g none) (.inl rfl)); replace HB := ak (iC o7 hb); replace HI0 := ak (aK.below oZ hb); clear hb OA; obtain ⟨AA, y9, P7⟩ := Kd.aV Ce.out; subst P7) | (refine gL 58 13 Tryz.func58 #[.pointer (some ⟨g, 0, none⟩), .slice AA azZ.length y9] ?_; (with_reducible refine (fE.calls w0 ?fU ?iW (cu ((Kd.aH Ce.out).2.2)) ((Kd.aH Ce.out).2.1) (oh (aK.own_ne HI0.out Ce.out (by decide))) A4.out).mono ?_); (case fU => exact oZ); (case iW => exact o7); rintro e w12 ⟨rfl, hi, hb, hk⟩; refine ⟨_, rfl, ?_⟩; replace ng := kc ng hk yR; replace Ce := ki Ce hk; replace HK := kt HK hk; replace HB := ak (hb); replace HI0 := ak (hi); clear hb; (try clear hk); (try clear hi)) | (refine gL 143 15 Tryz.func143 #[.pointer (some ⟨g, 0, none⟩)] ?_; (with_reducible refine (iI.calls w0 ?fU ?iW A5.out).mono ?_); (case fU => exact oZ); (case iW => exact o7); rintro e w13 ⟨rfl, hi, hb, hk⟩; refine ⟨_, rfl, ?_⟩; replace ng := kc ng hk yR; replace Ce := ki Ce hk; replace HK := kt HK hk; replace HB := ak (hb); replace HI0 := ak (hi); clear hb; (try clear hk); (try clear hi)) | (refine gL 142 16 Tryz.func142 #[.string az0, .string az1] ?_; (with_reducible refine (sH.calls A6.out).mono ?_); rintro e SA ⟨aHX, aHY, aHZ, rfl, ho0, ho1, ho2, hb⟩; refine ⟨_, rfl, ?_⟩; have aeH := ak (Kd.aC ho0 (dI (w := w) (g := g) (row := none) (kh HK.out))); have aeI := ak (Kd.aC (Kd.gK ho1 (Kd.kU (ur Ce.out))) (dI (w := w) (g := g) (row := none) (kh HK.out))); have aeJ := ak (Kd.aC (Kd.nN (Kd.gK ho2 (Kd.kU (ur Ce.out))) (g := S_) (o := .cells #[.slice none 0 0, .slice none 0 0, .slice none 0 0] 28 (0, 0)) (ub ng.out)) (dI (w := w) (g := g) (row := none) (kh HK.out))); replace Ce := ak (Kd.fP (ur Ce.out) (Kd.fO ho1) hb); replace ng := kb ng hb; replace HK := ak (aJ.trans (kh HK.out) (aJ.of_below hb g none) (.inl rfl)); replace HB := ak (iC o7 hb); replace HI0 := ak (aK.below oZ hb); clear hb; (try clear ho0); (try clear ho1); (try clear ho2)) | (refine bS HI0 HK HB HW0 3 #[.slice none 0 0, .slice none 0 0, .slice none 0 0] 28 ?_; clear HI0 HK HB; intro at6 w15 at7 aC5 aC6 aia aib hg hb HI0 HK HB; have acH := BL ng hg; have acI := BM ng hg; replace Ce := rb Ce hb; replace aeH := rb aeH hb; replace aeI := rb aeI hb; replace aeJ := ak (Kd.sO (Kd.yZ (ur aeJ.out) at6 (Nat.le_of_eq hg.symm)) hb); replace ng := kb ng hb; clear hb hg; obtain ⟨WC, WE, UQ⟩ := Kd.aV aeH.out; subst UQ; have ak2 := acI.out; have ak3 := acH.out; have aua := aib.out; have aub := aia.out; have z19 := jW at7.out; obtain ⟨Ql, Qm, Yu⟩ := Kd.aV aeI.out; subst Yu; obtain ⟨Ou, Ov, XT⟩ := Kd.aV aeJ.out; subst XT; have aC7 := yR.out; have aC8 := U2.out; have z23 := jW ng.out))
  refine bodyPost_ret (results_cell_row rfl _ _ S_ 28 #[.slice WC az2.length WE, .slice Ql az3.length Qm, .slice Ou az4.length Ov] (0, 0) _ rfl bq Tryz.underlying28 rfl (by kernel_rfl)) rfl ?_
  exact ⟨_, _, _, er, rr, rr, rr, oZ, o7, kh HK.out⟩
 ·
  replace H := bd H
  obtain ⟨⟨U3, az5⟩, Yx, H⟩ := H
  (try dsimp only at H)
  obtain ⟨az6, ak4⟩ := nm ([1, 2, 0, 3] : List Int)
  rw [← ak4.out] at H
  replace H := bd H
  obtain ⟨⟨aH0, aH1⟩, Ya, H⟩ := H
  (try dsimp only at H)
  have H' := ak H; clear H
  go_enter Tryz.func98, Tryz.ntmps98
  go_wp2_with (first | (refine bS HI0 HK HB HW0 2 #[.slice none 0 0, .slice none 0 0, .slice none 0 0] 28 ?_; clear HI0 HK HB; intro S_ w26 ng atZ at1 U2 yR hg hb HI0 HK HB; clear hb hg) | (refine gL 57 8 Tryz.func57 #[.pointer (some ⟨g, 0, none⟩), .int .i64 2] ?_; (with_reducible refine (cZ.calls w0 ?fU ?iW A2.out).mono ?_); (case fU => exact oZ); (case iW => exact o7); rintro e w27 ⟨rfl, hi, hb, hk⟩; refine ⟨_, rfl, ?_⟩; replace ng := kc ng hk yR; replace HK := kt HK hk; replace HB := ak (hb); replace HI0 := ak (hi); clear hb; (try clear hk); (try clear hi)) | (refine gL 144 21 Tryz.func144 #[.pointer (some ⟨g, 0, none⟩)] ?_; (with_reducible refine (lI.calls w0 ?fU ?iW Yx.out).mono ?_); (case fU => exact oZ); (case iW => exact o7); rintro e w28 ⟨aH2, rfl, ho0, hi, hb, hk⟩; refine ⟨_, rfl, ?_⟩; have N9 := ak (Kd.aC ho0 (dI (w := w) (g := g) (row := none) (kh HK.out))); replace ng := kc ng hk yR; replace HK := kt HK hk; replace HB := ak (hb); replace HI0 := ak (hi); clear hb; (try clear hk); (try clear hi); (try clear ho0); obtain ⟨U4, U5, aic⟩ := Kd.aV N9.out; subst aic) | (refine bS HI0 HK HB HW0 5 #[.slice none 0 0, .slice none 0 0, .slice none 0 0] 28 ?_; clear HI0 HK HB; intro Kw w30 sZ aC9 aC_ aa1 O_ hg hb HI0 HK HB; have MG := BL ng hg; have MH := BM ng hg; replace N9 := rb N9 hb; replace ng := kb ng hb; clear hb hg; have aDa := MH.out; have aDb := MG.out; have ak5 := O_.out; have ak6 := aa1.out; have z33 := jW sZ.out) | (refine RF 24 (Kd.int .i64) 3 [.int .i64 1, .int .i64 2, .int .i64 0, .int .i64 3] ak4 (dD.one (show Kd.M (Kd.int .i64) _ _ _ 1 [.int .i64 1] from rfl) (dD.one (show Kd.M (Kd.int .i64) _ _ _ 2 [.int .i64 2] from rfl) (dD.one (show Kd.M (Kd.int .i64) _ _ _ 0 [.int .i64 0] from rfl) (dD.one (show Kd.M (Kd.int .i64) _ _ _ 3 [.int .i64 3] from rfl) (dD.none _ _))))) ?_; intro aH3 w34 auc hb; have Tc := ak (Kd.aC auc (dI (w := w) (g := g) (row := none) (kh HK.out))); replace N9 := rg N9 hb; replace ng := kp ng #[.slice none 0 0, .slice none 0 0, .slice none 0 0] hb; replace sZ := kp sZ #[.slice U4 U3.length U5, .slice none 0 0, .slice none 0 0] hb; replace HK := ak (aJ.trans (kh HK.out) (aJ.of_below hb g none) (.inl rfl)); replace HB := ak (iC o7 hb); replace HI0 := ak (aK.below (show aK w0 (((w30.setCell ⟨Kw, 0, none⟩ (.slice U4 U3.length U5)).setCell ⟨Kw, 1, none⟩ (.slice none 0 0)).setCell ⟨Kw, 2, none⟩ (.slice none 0 0)) g eY az5 from oZ) hb); clear hb auc; obtain ⟨arK, arL, anp⟩ := Kd.aV Tc.out; subst anp) | (refine gL 97 25 Tryz.func97 #[.pointer (some ⟨g, 0, none⟩), .slice arK az6.length arL] ?_; (with_reducible refine (ku.calls w0 ?fU ?iW (cu ((Kd.aH Tc.out).2.2)) ((Kd.aH Tc.out).2.1) (oh (aK.own_ne HI0.out Tc.out (by decide))) Ya.out).mono ?_); (case fU => exact oZ); (case iW => exact o7); rintro e w37 ⟨rfl, hi, hb, hk⟩; refine ⟨_, rfl, ?_⟩; replace ng := kc ng hk yR; replace N9 := ki N9 hk; replace sZ := kc sZ hk O_; replace Tc := ki Tc hk; replace HK := kt HK hk; replace HB := ak (hb); replace HI0 := ak (hi); clear hb; (try clear hk); (try clear hi)))
  go_loopg [6] k (fun kq v6 w' => ∃ (jD : Int) (xU : Int) (Am : List ByteArray) (D9 : Value), v6 = .int .i64 jD ∧ ah (iw.l0 kq jD eY xU U3 Am = some (r1, r2, r3, r4)) ∧ ah (kq ≤ k) ∧ ah (Kd.R qj 69 w' w.heap.size (fun _ => True) (.slice U4 U3.length U5) U3) ∧ ah (Kd.R Kd.string 9 w' w.heap.size (fun _ => True) D9 Am) ∧ ah (w'.heap[S_]? = some (.cells #[(.slice none 0 0), (.slice none 0 0), (.slice none 0 0)] 28 (0, 0))) ∧ ah (w'.heap[Kw]? = some (.cells #[(.slice U4 U3.length U5), D9, (.slice none 0 0)] 28 (0, 0))) ∧ ah (aK w0 w' g eY xU) ∧ ah (aJ w w' g none) ∧ ah (Below w0.heap.size w0 w'))
  case atStart => exact ⟨_, _, _, _, rs, H', ⟨Nat.le_refl _⟩, ⟨ur N9.out⟩, ⟨nx⟩, ⟨ub ng.out⟩, ⟨ub sZ.out⟩, ⟨oZ⟩, ⟨kh HK.out⟩, ⟨o7⟩⟩
  case round =>
   clear H'
   try clear c3
   try clear iO
   try clear Au
   obtain ⟨jD, xU, Am, D9, rfl, HA, xG, uq, oq, ng, sZ, HI0, HK, HB⟩ := hrel
   cases gk with
   | zero => exact zz HA.out
   | succ k1 =>
    obtain ⟨H⟩ := HA
    simp only [iw.l0] at H
    replace H := sp H
    rcases H with ⟨XO, H⟩ | ⟨XO, H⟩
    ·
     have aaU : decide (0 < jD) = true := decide_eq_true XO
     clear XO
     obtain ⟨aud, aeK⟩ := nm ([(⟨#[97]⟩ : ByteArray), (⟨#[]⟩ : ByteArray), (⟨#[116, 101, 120, 116, 32, 111, 102, 32, 97, 32, 108, 105, 110, 101]⟩ : ByteArray), (⟨#[45, 45, 98, 49]⟩ : ByteArray), (⟨#[45, 45, 120]⟩ : ByteArray)] : List ByteArray)
     rw [← aeK.out] at H
     replace H := bd H
     obtain ⟨⟨aob, aH4⟩, A39, H⟩ := H
     (try dsimp only at H)
     replace H := nl H; obtain ⟨Wi, H⟩ := H
     obtain ⟨aH5, ak7⟩ := nm (Am ++ [aob])
     rw [← ak7.out] at H
     have H' := ak H; clear H
     try go_wp2
     replace uq := ak (Kd.l9 uq.out)
     replace oq := ak (Kd.l9 oq.out)
     replace ng := ak (bC ng.out)
     replace sZ := ak (bC sZ.out)
     replace HI0 := ak (aK.drew HI0.out)
     replace HK := ak (yF HK.out)
     replace HB := ak (iF HB.out)
     refine Df (n := 9) (S := fun w' => w'.cell? ⟨Kw, 0, none⟩ = some (.slice U4 U3.length U5) ∧ w'.cell? ⟨Kw, 1, none⟩ = some (D9) ∧ w'.cell? ⟨Kw, 2, none⟩ = some (.slice none 0 0)) (ds := [8]) #[false, false, false, false, false, false, false, false, false] (by kernel_rfl) rfl rfl ⟨(aA sZ.out 0).trans rfl, (aA sZ.out 1).trans rfl, (aA sZ.out 2).trans rfl⟩ (fun hHeld => ?_); refine uo iw.acp iw.SK (fun ug Yd => ?_)
     generalize wr.drew = w41 at uq oq ng sZ HI0 HK HB hHeld ⊢
     refine pl 0 ?_
     refine pl 2 ?_
     refine tk 1 ?_
     refine o1 3 (fun K hK => ?_)
     refine Kd.qM Kd.string _ 9 ?hg (N := 33) ?hd (xs := ([(⟨#[97]⟩ : ByteArray), (⟨#[]⟩ : ByteArray), (⟨#[116, 101, 120, 116, 32, 111, 102, 32, 97, 32, 108, 105, 110, 101]⟩ : ByteArray), (⟨#[45, 45, 98, 49]⟩ : ByteArray), (⟨#[45, 45, 120]⟩ : ByteArray)] : List ByteArray)) (inner := [.string (⟨#[97]⟩ : ByteArray), .string (⟨#[]⟩ : ByteArray), .string (⟨#[116, 101, 120, 116, 32, 111, 102, 32, 97, 32, 108, 105, 110, 101]⟩ : ByteArray), .string (⟨#[45, 45, 98, 49]⟩ : ByteArray), .string (⟨#[45, 45, 120]⟩ : ByteArray)]) (ok := fun _ => True) (wE := fun _ => True) ?hr ?hp (fun _ hk => hk) trivial (Below.refl _ _) (Nat.le_refl _) (by simp) ?_; (case hd => rfl); (case hg => rfl); (case hr => first | (go_simp; done) | (go_simp; rfl)); (case hp => exact (dD.one (show Kd.M Kd.string _ _ _ (⟨#[97]⟩ : ByteArray) [.string (⟨#[97]⟩ : ByteArray)] from rfl) (dD.one (show Kd.M Kd.string _ _ _ (⟨#[]⟩ : ByteArray) [.string (⟨#[]⟩ : ByteArray)] from rfl) (dD.one (show Kd.M Kd.string _ _ _ (⟨#[116, 101, 120, 116, 32, 111, 102, 32, 97, 32, 108, 105, 110, 101]⟩ : ByteArray) [.string (⟨#[116, 101, 120, 116, 32, 111, 102, 32, 97, 32, 108, 105, 110, 101]⟩ : ByteArray)] from rfl) (dD.one (show Kd.M Kd.string _ _ _ (⟨#[45, 45, 98, 49]⟩ : ByteArray) [.string (⟨#[45, 45, 98, 49]⟩ : ByteArray)] from rfl) (dD.one (show Kd.M Kd.string _ _ _ (⟨#[45, 45, 120]⟩ : ByteArray) [.string (⟨#[45, 45, 120]⟩ : ByteArray)] from rfl) (dD.none _ _)))))))
     intro aH6 w42 RN hb BX wH
     clear BX wH
     (first | rw [← aeK.out] at RN | (simp only [Int.reduceToNat] at RN; rw [← aeK.out] at RN))
     have Ij := ak (Kd.aC (Kd.gK RN (Kd.kU (ur oq.out))) (dI (w := w) (g := g) (row := none) (kh HK.out)))
     replace uq := rb uq hb
     replace oq := ak (Kd.fP (ur oq.out) (Kd.fO RN) hb)
     replace ng := kb ng hb
     replace sZ := kb sZ hb
     replace HK := ak (aJ.trans (kh HK.out) (aJ.of_below hb g none) (.inl rfl))
     replace HB := ak (iC o7 hb)
     replace HI0 := ak (aK.below oZ hb)
     clear hb RN
     obtain ⟨adF, adG, aci⟩ := Kd.aV Ij.out
     (first | subst aci | (injection aci with qV xB qW; have xC := qV.symm; have xE := qW.symm; clear qV xB qW; subst xC; subst xE))
     refine hK.out _ _ sx (fun hHeld => ?_)
     clear hK K
     refine nrm ?_
     refine o1 4 (fun K hK => ?_)
     refine y8 Tryz.func58 (by kernel_rfl) rfl #[.pointer (some ⟨g, 0, none⟩), .slice adF aud.length adG] (by rfl) rfl rfl ma ?_
     with_reducible refine (fE.calls w0 ?fU ?iW ?zk ?Dx ?zl A39.out).mono ?_
     (case fU => exact oZ)
     (case iW => exact o7)
     (case zk => repeat (first | exact (Kd.aH Ij.out).2.2 | (with_reducible refine Kd.jf ?_ _) | (with_reducible refine Kd.jg ?_ _) | (with_reducible refine Kd.kH ?_)))
     (case Dx => exact (Kd.aH Ij.out).2.1)
     (case zl => exact oh (aK.own_ne HI0.out Ij.out (by decide)))
     rintro e w45 ⟨rfl, hi, hb, hk⟩
     refine ⟨_, rfl, ?_⟩
     replace uq := ki uq hk
     replace oq := ki oq hk
     replace ng := kc ng hk yR
     replace sZ := kc sZ hk O_
     replace Ij := ki Ij hk
     replace HK := kt HK hk
     replace HB := ak (hb)
     replace HI0 := ak (hi)
     try clear hb
     try clear hk
     try clear hi
     refine hK.out _ _ sx (fun hHeld => ?_)
     clear hK K
     refine nrm ?_
     refine o1 5 (fun K hK => ?_)
     refine Dh (w1 := ?_) (v := ?_) (by rfl) rfl ?_ ?_
     rotate_left 2
     ·
      go_simp
      constructor
      ·
       rfl
      ·
       rfl
     refine hK.out _ _ ⟨(aA (aX sZ.out _) 0).trans rfl, (aA (aX sZ.out _) 1).trans rfl, (aA (aX sZ.out _) 2).trans rfl⟩ (fun hHeld => ?_)
     clear hK K
     refine nrm ?_
     refine o1 6 (fun K hK => ?_)
     refine Kd.nS Kd.string w.heap.size (by rfl) (.tmp 31) (.tmp 35) 23 9 (.string ⟨#[]⟩) 16 rfl Tryz.underlying23 info9 rfl (by decide) (by omega) D9 Am aob [.string aob] (fun k_ => some k_ ≠ (.slice adF aud.length adG : Value).ownBlock) (fun _ => False) rfl rfl ?aP (fun _ hk => hk.elim) ?aF ?aO (Below.refl _ _) ?aS ?aL ?_
     (case aP => exact rfl)
     (case aF => exact (fun k_ hk => Kd.fresh' (Kd.kU (ur Ij.out)) k_ hk))
     (case aO => exact (ur (Kd.bn oq.out (fun _ hk => hk.2))))
     (case aS => exact (dI (w := w) (g := g) (row := none) (kh HK.out)))
     (case aL => have := Wi.out; omega)
     intro aH7 w46 ho hb hg hat
     rw [← ak7.out] at ho
     have y5 := ak (Kd.qm (ur uq.out) (Kd.kQ (ur oq.out)) (by decide) hg)
     have y7 := ak (dw (g := S_) (o := .cells #[.slice none 0 0, .slice none 0 0, .slice none 0 0] 28 (0, 0)) (ub ng.out) hg (Kd.oU oq.out ng.out (by decide)))
     have zT := ak (dw (g := Kw) (o := .cells #[.slice U4 U3.length U5, D9, .slice none 0 0] 28 (0, 0)) (ub sZ.out) hg (Kd.oU oq.out sZ.out (by decide)))
     have Dq := ak (aK.grown oZ hg (aK.own_ne HI0.out oq.out (by decide)))
     have Ib := ak (Kd.Aa (ok := (fun _ => True)) (ur Ij.out) hg hat)
     have Kr := ak (vU o7 HL.out hb)
     have N7 := ak (aJ.trans (kh HK.out) (aJ.zo hg g) (Kd.GX oq.out))
     have SS := ak (ho)
     clear uq ng sZ HI0 Ij HB HK oq
     have uq := y5
     have ng := y7
     have sZ := zT
     have HI0 := Dq
     have Ij := Ib
     have HB := Kr
     have HK := N7
     have aue := SS
     clear y5 y7 zT Dq Ib Kr N7 SS ho hb hg hat
     obtain ⟨amv, amw, ahc⟩ := Kd.aV aue.out
     (first | subst ahc | (injection ahc with qV xB qW; have xC := qV.symm; have xE := qW.symm; clear qV xB qW; subst xC; subst xE))
     refine hK.out _ _ sx (fun hHeld => ?_)
     clear hK K
     refine nrm ?_
     refine pl 7 ?_
     refine Ia (i := 8) (N := none) #[true, true, true, true, true, true, true, true, true] rfl rfl (oK ug.out (by kernel_rfl)) (by decide) (fun K hK => ?_)
     have aH8 : w46.cell? ⟨Kw, 1, none⟩ = some (D9) := (aA sZ.out 1).trans rfl
     have aDc := gX sZ.out 1
     have axz := MG.out
     have axA := MH.out
     refine Ic (w1 := ?_) (by rfl) rfl ?_ ?_
     rotate_left
     ·
      go_simp
      rfl
     refine hK.out _ _ ?_
     clear hK K
     refine Ie (yQ ug.out (by kernel_rfl)) ?_
     try go_wp2
     go_roundg k1
     case measure => exact kl
     case rel => exact ⟨_, _, _, _, rs, H', ⟨kl⟩, ⟨rr⟩, ⟨rr⟩, ⟨bq⟩, ⟨bq⟩, ⟨oZ⟩, ⟨kh HK.out⟩, ⟨o7⟩⟩
    ·
     have aaU : decide (0 < jD) = false := decide_eq_false XO
     clear XO
     obtain ⟨rfl, rfl, rfl, rfl⟩ := s4 H
     have aDd := MH.out
     have aDe := MG.out
     have aDf := O_.out
     have aDg := aa1.out
     have z51 := jW sZ.out
     have aDh := yR.out
     have aDi := U2.out
     have z53 := jW ng.out
     obtain ⟨az7, az8, az9⟩ := Kd.aV oq.out
     subst az9
     go_wp2
     refine bodyPost_ret (results_cell_row rfl _ _ S_ 28 #[.slice U4 U3.length U5, .slice az7 Am.length az8, .slice none 0 0] (0, 0) _ rfl bq Tryz.underlying28 rfl (by kernel_rfl)) rfl ?_
     exact ⟨_, _, _, er, rr, rr, nx, oZ, o7, kh HK.out⟩
mutual
def dY.j0 : Nat → Int → Bool → List Int → Int → Option ((List (gU)) × List ByteArray × (List (mY)) × Int)
 | 0, _, _, _, _ => none
 | k + 1, x1, MC, x1000, oQ => if MC = true then ((iw.f k x1000 oQ).bind fun aa2 => (some (aa2.1, aa2.2.1, aa2.2.2.1, aa2.2.2.2))) else ((fE.f k x1000 oQ (([(⟨#[109, 117, 108, 116, 105, 112, 97, 114, 116, 47, 109, 105, 120, 101, 100, 59, 32, 98, 111, 117, 110, 100, 97, 114, 121, 61, 98, 48]⟩ : ByteArray), (⟨#[77, 117, 108, 116, 105, 112, 97, 114, 116, 47, 97, 108, 116, 101, 114, 110, 97, 116, 105, 118, 101, 59, 32, 66, 111, 117, 110, 100, 97, 114, 121, 61, 98, 50]⟩ : ByteArray), (⟨#[109, 117, 108, 116, 105, 112, 97, 114, 116, 47, 109, 105, 120, 101, 100, 59, 32, 98, 111, 117, 110, 100, 97, 114, 121, 61, 120, 121, 122]⟩ : ByteArray)] : List ByteArray))).bind fun ak8 => ((ku.f k x1000 ak8.2 (([2, 1, 3] : List Int))).bind fun ak9 => (dY.l0 k x1 ak9.1 x1000 ak9.2 (([(⟨(⟨#[83, 117, 98, 106, 101, 99, 116]⟩ : ByteArray), (⟨#[109, 97, 110, 121]⟩ : ByteArray)⟩ : gU), (⟨(⟨#[67, 111, 110, 116, 101, 110, 116, 45, 84, 121, 112, 101]⟩ : ByteArray), ak8.1⟩ : gU)] : List (gU))) ([] : List (mY)))))
def dY.l0 : Nat → Int → Int → List Int → Int → List (gU) → List (mY) → Option ((List (gU)) × List ByteArray × (List (mY)) × Int)
 | 0, _, _, _, _, _, _ => none
 | k + 1, x1, x6, x1000, oQ, aa3, U6 => if x6 > 0 then ((dY.f k x1000 oQ (wrap64 (x1 - 1))).bind fun aa4 => (if U6.length < 1954687338268 then (dY.l0 k x1 (wrap64 (x6 - 1)) x1000 aa4.2.2.2 aa3 (U6 ++ [(⟨aa4.1, aa4.2.1, aa4.2.2.1⟩ : mY)])) else (none))) else (some (aa3, ([] : List ByteArray), U6, oQ))
def dY.f : Nat → List Int → Int → Int → Option ((List (gU)) × List ByteArray × (List (mY)) × Int)
 | 0, _, _, _ => none
 | k + 1, eY, kE, a1 => if a1 < 2 then (dY.j0 k a1 true eY kE) else ((cZ.f k eY kE 2).bind fun ak_ => (dY.j0 k a1 (ak_.1 == 0) eY ak_.2))
end
def dY.T7 : Bool × List (List Nat × List Nat) := (true, [([], []), ([0], [0]), ([], []), ([], []), ([3], [3]), ([2, 4], [2, 4]), ([5], [5]), ([1, 6, 5], [1, 6]), ([0, 1, 2, 3, 4, 5, 6, 7], []), ([8, 7, 7, 0, 1, 2, 3, 4, 5, 6, 7], [7, 8])])
def dY.B7 : List Nat := [0, 1, 0, 0, 8, 28, 60, 127, 255, 511]
theorem dY.apC : sQ .any (opsOf Tryz.f56 7) = dY.T7 := by kernel_rfl
theorem dY.ajf : nU dY.T7.2 dY.B7 = true := by kernel_rfl
theorem dY.calls (k : Nat) : ∀ (g : Nat) (eY : List Int) (kE : Int) (a1 : Int) (r1 : List (gU)) (r2 : List ByteArray) (r3 : List (mY)) (r4 : Int) (w0 w : World) (hI : aK w0 w g eY kE) (hB : Below w0.heap.size w0 w) (h : dY.f k eY kE a1 = some (r1, r2, r3, r4)),
  Calls Tryz.prog 56 #[.pointer (some ⟨g, 0, none⟩), .int .i64 a1] w fun e w' => ∃ ql DT E8 : Value, e = .returned (.agg #[ql, DT, E8]) ∧ Kd.R qj 69 w' w.heap.size (fun _ => True) ql r1 ∧ Kd.R Kd.string 9 w' w.heap.size (fun _ => True) DT r2 ∧ Kd.R k28 28 w' w.heap.size (fun k_ => some k_ ≠ (ql : Value).ownBlock ∧ some k_ ≠ (DT : Value).ownBlock) E8 r3 ∧ aK w0 w' g eY r4 ∧ Below w0.heap.size w0 w' ∧ aJ w w' g none := by
 induction k using Nat.strongRecOn with
 | _ k ih =>
 intro g eY kE a1 r1 r2 r3 r4 w0 w hI hB h
 cases k with
 | zero => exact absurd h (by simp [dY.f])
 | succ k =>
 simp only [dY.f] at h
 have Dj := Tryz.underlying28
 have DU := Tryz.underlying69
 have HI0 := ak hI
 have HK := ak (aJ.refl w g none)
 have HL := ak hB.size
 clear hI
 have HW0 := ak hB.size
 have HB := ak hB
 clear hB
 have H := h
 clear h
 have P9 := ak H
 clear H
 go_enter Tryz.func56, Tryz.ntmps56
 go_upto_region 1 with (refine bS HI0 HK HB HW0 4 #[.slice none 0 0, .slice none 0 0, .slice none 0 0] 28 ?_; clear HI0 HK HB; intro AL w4 oH aDj aDk aa5 D_ hg hb HI0 HK HB; clear hb hg)
 (try simp only [Act.put, qQ, qR, l_c])
 go_cut [13] (fun v13 wc => ∃ (kq : Nat) (aeL : Bool) (Af : Int), v13 = .bool aeL ∧ ah (dY.j0 kq a1 aeL eY Af = some (r1, r2, r3, r4)) ∧ ah (kq ≤ k) ∧ ah (wc.heap[AL]? = some (.cells #[(.slice none 0 0), (.slice none 0 0), (.slice none 0 0)] 28 (0, 0))) ∧ ah (aK w0 wc g eY Af) ∧ ah (aJ w wc g none) ∧ ah (Below w0.heap.size w0 wc))
 case first =>
  have H := P9.out
  clear P9
  replace H := sd H
  rcases H with ⟨nO, H⟩ | ⟨nO, H⟩
  ·
   (first | rw [nO] | (simp only [dP, fG]; rw [nO]) | skip)
   have H' := ak H; clear H
   go_wp2
   go_meet
   case rel => exact ⟨_, _, _, rs, H', ⟨Jq⟩, ⟨ub oH.out⟩, ⟨oZ⟩, ⟨kh HK.out⟩, ⟨o7⟩⟩
  ·
   (first | rw [nO] | (simp only [dP, fG]; rw [nO]) | skip)
   replace H := bd H
   obtain ⟨⟨aH9, aH_⟩, A6, H⟩ := H
   (try dsimp only at H)
   have H' := ak H; clear H
   go_wp2_with (go_at_call 57; (with_reducible refine (cZ.calls w0 ?fU ?iW A6.out).mono ?_); (case fU => exact oZ); (case iW => exact o7); rintro e w7 ⟨rfl, hi, hb, hk⟩; replace oH := kc oH hk D_; replace HK := kt HK hk; replace HB := ak (hb); replace HI0 := ak (hi); clear hb; (try clear hk); (try clear hi))
   go_meet
   case rel => exact ⟨_, _, _, rs, H', ⟨Jq⟩, ⟨ub oH.out⟩, ⟨oZ⟩, ⟨kh HK.out⟩, ⟨o7⟩⟩
 case rest =>
  clear P9
  obtain ⟨kq, aeL, Af, rfl, HA, HJ2, oH, HI0, HK, HB⟩ := hcut
  cases kq with
  | zero => exact zz HA.out
  | succ ZQ =>
   obtain ⟨H⟩ := HA
   simp only [dY.j0] at H
   replace H := sb H
   rcases H with ⟨rfl, H⟩ | ⟨rfl, H⟩
   ·
    replace H := bd H
    obtain ⟨⟨az_, aAa, aAb, aIa⟩, A9, H⟩ := H
    (try dsimp only at H)
    obtain ⟨rfl, rfl, rfl, rfl⟩ := s4 H
    go_wp2_with (refine gL 98 15 Tryz.func98 #[.pointer (some ⟨g, 0, none⟩)] ?_; (with_reducible refine (iw.calls w0 ?fU ?iW A9.out).mono ?_); (case fU => exact oZ); (case iW => exact o7); rintro e w10 ⟨aIb, aIc, aId, rfl, ho0, ho1, ho2, hi, hb, hk⟩; refine ⟨_, rfl, ?_⟩; have auf := ak (Kd.aC ho0 (dI (w := w) (g := g) (row := none) (kh HK.out))); have aug := ak (Kd.aC ho1 (dI (w := w) (g := g) (row := none) (kh HK.out))); have auh := ak (Kd.aC (Kd.nN ho2 (g := AL) (o := .cells #[.slice none 0 0, .slice none 0 0, .slice none 0 0] 28 (0, 0)) (ub oH.out)) (dI (w := w) (g := g) (row := none) (kh HK.out))); replace oH := kc oH hk D_; replace HK := kt HK hk; replace HB := ak (hb); replace HI0 := ak (hi); clear hb; (try clear hk); (try clear hi); (try clear ho0); (try clear ho1); (try clear ho2); obtain ⟨AA, y9, P7⟩ := Kd.aV auf.out; subst P7; have ar7 := D_.out; have ar8 := aa5.out; have z13 := jW oH.out; obtain ⟨ace, acf, XV⟩ := Kd.aV aug.out; subst XV; obtain ⟨LU, LV, Ue⟩ := Kd.aV auh.out; subst Ue)
    refine bodyPost_ret (results_cell_row rfl _ _ AL 28 #[.slice AA az_.length y9, .slice ace aAa.length acf, .slice LU aAb.length LV] (0, 0) _ rfl bq Tryz.underlying28 rfl (by kernel_rfl)) rfl ?_
    exact ⟨_, _, _, er, rr, rr, rr, oZ, o7, kh HK.out⟩
   ·
    obtain ⟨aAc, ala⟩ := nm ([(⟨#[109, 117, 108, 116, 105, 112, 97, 114, 116, 47, 109, 105, 120, 101, 100, 59, 32, 98, 111, 117, 110, 100, 97, 114, 121, 61, 98, 48]⟩ : ByteArray), (⟨#[77, 117, 108, 116, 105, 112, 97, 114, 116, 47, 97, 108, 116, 101, 114, 110, 97, 116, 105, 118, 101, 59, 32, 66, 111, 117, 110, 100, 97, 114, 121, 61, 98, 50]⟩ : ByteArray), (⟨#[109, 117, 108, 116, 105, 112, 97, 114, 116, 47, 109, 105, 120, 101, 100, 59, 32, 98, 111, 117, 110, 100, 97, 114, 121, 61, 120, 121, 122]⟩ : ByteArray)] : List ByteArray)
    rw [← ala.out] at H
    replace H := bd H
    obtain ⟨⟨aeM, aAd⟩, A16, H⟩ := H
    (try dsimp only at H)
    obtain ⟨IV, alb⟩ := nm ([(⟨(⟨#[83, 117, 98, 106, 101, 99, 116]⟩ : ByteArray), (⟨#[109, 97, 110, 121]⟩ : ByteArray)⟩ : gU), (⟨(⟨#[67, 111, 110, 116, 101, 110, 116, 45, 84, 121, 112, 101]⟩ : ByteArray), aeM⟩ : gU)] : List (gU))
    rw [← alb.out] at H
    obtain ⟨aAe, alc⟩ := nm ([2, 1, 3] : List Int)
    rw [← alc.out] at H
    replace H := bd H
    obtain ⟨⟨aIe, aIf⟩, A17, H⟩ := H
    (try dsimp only at H)
    have H' := ak H; clear H
    go_wp2_with (first | (refine RF 18 Kd.string 9 [.string (⟨#[109, 117, 108, 116, 105, 112, 97, 114, 116, 47, 109, 105, 120, 101, 100, 59, 32, 98, 111, 117, 110, 100, 97, 114, 121, 61, 98, 48]⟩ : ByteArray), .string (⟨#[77, 117, 108, 116, 105, 112, 97, 114, 116, 47, 97, 108, 116, 101, 114, 110, 97, 116, 105, 118, 101, 59, 32, 66, 111, 117, 110, 100, 97, 114, 121, 61, 98, 50]⟩ : ByteArray), .string (⟨#[109, 117, 108, 116, 105, 112, 97, 114, 116, 47, 109, 105, 120, 101, 100, 59, 32, 98, 111, 117, 110, 100, 97, 114, 121, 61, 120, 121, 122]⟩ : ByteArray)] ala (dD.one (show Kd.M Kd.string _ _ _ (⟨#[109, 117, 108, 116, 105, 112, 97, 114, 116, 47, 109, 105, 120, 101, 100, 59, 32, 98, 111, 117, 110, 100, 97, 114, 121, 61, 98, 48]⟩ : ByteArray) [.string (⟨#[109, 117, 108, 116, 105, 112, 97, 114, 116, 47, 109, 105, 120, 101, 100, 59, 32, 98, 111, 117, 110, 100, 97, 114, 121, 61, 98, 48]⟩ : ByteArray)] from rfl) (dD.one (show Kd.M Kd.string _ _ _ (⟨#[77, 117, 108, 116, 105, 112, 97, 114, 116, 47, 97, 108, 116, 101, 114, 110, 97, 116, 105, 118, 101, 59, 32, 66, 111, 117, 110, 100, 97, 114, 121, 61, 98, 50]⟩ : ByteArray) [.string (⟨#[77, 117, 108, 116, 105, 112, 97, 114, 116, 47, 97, 108, 116, 101, 114, 110, 97, 116, 105, 118, 101, 59, 32, 66, 111, 117, 110, 100, 97, 114, 121, 61, 98, 50]⟩ : ByteArray)] from rfl) (dD.one (show Kd.M Kd.string _ _ _ (⟨#[109, 117, 108, 116, 105, 112, 97, 114, 116, 47, 109, 105, 120, 101, 100, 59, 32, 98, 111, 117, 110, 100, 97, 114, 121, 61, 120, 121, 122]⟩ : ByteArray) [.string (⟨#[109, 117, 108, 116, 105, 112, 97, 114, 116, 47, 109, 105, 120, 101, 100, 59, 32, 98, 111, 117, 110, 100, 97, 114, 121, 61, 120, 121, 122]⟩ : ByteArray)] from rfl) (dD.none _ _)))) ?_; intro aIg w18 aui hb; have Ci := ak (Kd.aC aui (dI (w := w) (g := g) (row := none) (kh HK.out))); replace oH := kb oH hb; replace HK := ak (aJ.trans (kh HK.out) (aJ.of_below hb g none) (.inl rfl)); replace HB := ak (iC o7 hb); replace HI0 := ak (aK.below oZ hb); clear hb aui; obtain ⟨Ql, Qm, Yu⟩ := Kd.aV Ci.out; subst Yu) | (refine gL 58 19 Tryz.func58 #[.pointer (some ⟨g, 0, none⟩), .slice Ql aAc.length Qm] ?_; (with_reducible refine (fE.calls w0 ?fU ?iW (cu ((Kd.aH Ci.out).2.2)) ((Kd.aH Ci.out).2.1) (oh (aK.own_ne HI0.out Ci.out (by decide))) A16.out).mono ?_); (case fU => exact oZ); (case iW => exact o7); rintro e w21 ⟨rfl, hi, hb, hk⟩; refine ⟨_, rfl, ?_⟩; replace oH := kc oH hk D_; replace Ci := ki Ci hk; replace HK := kt HK hk; replace HB := ak (hb); replace HI0 := ak (hi); clear hb; (try clear hk); (try clear hi)) | (refine RF 21 qj 69 [.string (⟨#[83, 117, 98, 106, 101, 99, 116]⟩ : ByteArray), .string (⟨#[109, 97, 110, 121]⟩ : ByteArray), .string (⟨#[67, 111, 110, 116, 101, 110, 116, 45, 84, 121, 112, 101]⟩ : ByteArray), .string aeM] alb (dD.c2 (show Kd.M qj _ _ _ (⟨(⟨#[83, 117, 98, 106, 101, 99, 116]⟩ : ByteArray), (⟨#[109, 97, 110, 121]⟩ : ByteArray)⟩ : gU) [.string (⟨#[83, 117, 98, 106, 101, 99, 116]⟩ : ByteArray), .string (⟨#[109, 97, 110, 121]⟩ : ByteArray)] from (wM _ _ _ (⟨(⟨#[83, 117, 98, 106, 101, 99, 116]⟩ : ByteArray), (⟨#[109, 97, 110, 121]⟩ : ByteArray)⟩ : gU) )) (dD.c2 (show Kd.M qj _ _ _ (⟨(⟨#[67, 111, 110, 116, 101, 110, 116, 45, 84, 121, 112, 101]⟩ : ByteArray), aeM⟩ : gU) [.string (⟨#[67, 111, 110, 116, 101, 110, 116, 45, 84, 121, 112, 101]⟩ : ByteArray), .string aeM] from (wM _ _ _ (⟨(⟨#[67, 111, 110, 116, 101, 110, 116, 45, 84, 121, 112, 101]⟩ : ByteArray), aeM⟩ : gU) )) (dD.none _ _))) ?_; intro aIh X_ auj hb; have N_ := ak (Kd.aC auj (dI (w := w) (g := g) (row := none) (kh HK.out))); replace Ci := rb Ci hb; replace oH := kb oH hb; replace HK := ak (aJ.trans (kh HK.out) (aJ.of_below hb g none) (.inl rfl)); replace HB := ak (iC o7 hb); replace HI0 := ak (aK.below oZ hb); clear hb auj; obtain ⟨MI, MJ, aAf⟩ := Kd.aV N_.out; subst aAf) | (refine bS HI0 HK HB HW0 5 #[.slice none 0 0, .slice none 0 0, .slice none 0 0] 28 ?_; clear HI0 HK HB; intro Cj w25 sK aDl aDm aa6 Pg hg hb HI0 HK HB; have MK := BL oH hg; have ML := BM oH hg; replace Ci := rb Ci hb; replace N_ := rb N_ hb; replace oH := kb oH hb; clear hb hg; have auk := ML.out; have aul := MK.out; have ajO := Pg.out; have ajP := aa6.out; have aKa := jW sK.out) | (refine RF 24 (Kd.int .i64) 3 [.int .i64 2, .int .i64 1, .int .i64 3] alc (dD.one (show Kd.M (Kd.int .i64) _ _ _ 2 [.int .i64 2] from rfl) (dD.one (show Kd.M (Kd.int .i64) _ _ _ 1 [.int .i64 1] from rfl) (dD.one (show Kd.M (Kd.int .i64) _ _ _ 3 [.int .i64 3] from rfl) (dD.none _ _)))) ?_; intro aIi w29 WQ hb; have Td := ak (Kd.aC WQ (dI (w := w) (g := g) (row := none) (kh HK.out))); replace Ci := rg Ci hb; replace N_ := rg N_ hb; replace oH := kp oH #[.slice none 0 0, .slice none 0 0, .slice none 0 0] hb; replace sK := kp sK #[.slice MI IV.length MJ, .slice none 0 0, .slice none 0 0] hb; replace HK := ak (aJ.trans (kh HK.out) (aJ.of_below hb g none) (.inl rfl)); replace HB := ak (iC o7 hb); replace HI0 := ak (aK.below (show aK w0 (((w25.setCell ⟨Cj, 0, none⟩ (.slice MI IV.length MJ)).setCell ⟨Cj, 1, none⟩ (.slice none 0 0)).setCell ⟨Cj, 2, none⟩ (.slice none 0 0)) g eY aAd from oZ) hb); clear hb WQ; obtain ⟨an9, an_, ah3⟩ := Kd.aV Td.out; subst ah3) | (refine gL 97 25 Tryz.func97 #[.pointer (some ⟨g, 0, none⟩), .slice an9 aAe.length an_] ?_; (with_reducible refine (ku.calls w0 ?fU ?iW (cu ((Kd.aH Td.out).2.2)) ((Kd.aH Td.out).2.1) (oh (aK.own_ne HI0.out Td.out (by decide))) A17.out).mono ?_); (case fU => exact oZ); (case iW => exact o7); rintro e w32 ⟨rfl, hi, hb, hk⟩; refine ⟨_, rfl, ?_⟩; replace oH := kc oH hk D_; replace Ci := ki Ci hk; replace N_ := ki N_ hk; replace sK := kc sK hk Pg; replace Td := ki Td hk; replace HK := kt HK hk; replace HB := ak (hb); replace HI0 := ak (hi); clear hb; (try clear hk); (try clear hi)))
    go_loopg [6] ZQ (fun kq v6 w' => ∃ (qL : Int) (Af : Int) (yG : List (mY)) (yS : Value), v6 = .int .i64 qL ∧ ah (dY.l0 kq a1 qL eY Af IV yG = some (r1, r2, r3, r4)) ∧ ah (kq ≤ ZQ) ∧ ah (Kd.R qj 69 w' w.heap.size (fun _ => True) (.slice MI IV.length MJ) IV) ∧ ah (Kd.R k28 28 w' w.heap.size (fun k_ => some k_ ≠ ((.slice MI IV.length MJ) : Value).ownBlock ∧ k_ ≠ AL ∧ k_ ≠ Cj) yS yG) ∧ ah (w'.heap[AL]? = some (.cells #[(.slice none 0 0), (.slice none 0 0), (.slice none 0 0)] 28 (0, 0))) ∧ ah (w'.heap[Cj]? = some (.cells #[(.slice MI IV.length MJ), (.slice none 0 0), yS] 28 (0, 0))) ∧ ah (aK w0 w' g eY Af) ∧ ah (aJ w w' g none) ∧ ah (Below w0.heap.size w0 w'))
    case atStart => exact ⟨_, _, _, _, rs, H', ⟨Nat.le_refl _⟩, ⟨ur N_.out⟩, ⟨nx⟩, ⟨ub oH.out⟩, ⟨ub sK.out⟩, ⟨oZ⟩, ⟨kh HK.out⟩, ⟨o7⟩⟩
    case round =>
     clear H'
     try clear c2
     obtain ⟨qL, Af, yG, yS, rfl, HA, Zw, qZ, nJ, oH, sK, HI0, HK, HB⟩ := hrel
     cases gk with
     | zero => exact zz HA.out
     | succ k2 =>
      obtain ⟨H⟩ := HA
      simp only [dY.l0] at H
      replace H := sp H
      rcases H with ⟨c33, H⟩ | ⟨c33, H⟩
      ·
       have SI : decide (0 < qL) = true := decide_eq_true c33
       clear c33
       replace H := bd H
       obtain ⟨⟨aeN, aeO, aeP, aAg⟩, A34, H⟩ := H
       (try dsimp only at H)
       replace H := nl H; obtain ⟨aec, H⟩ := H
       obtain ⟨aIj, ald⟩ := nm (yG ++ [(⟨aeN, aeO, aeP⟩ : mY)])
       rw [← ald.out] at H
       have H' := ak H; clear H
       try go_wp2
       replace qZ := ak (Kd.l9 qZ.out)
       replace nJ := ak (Kd.l9 nJ.out)
       replace oH := ak (bC oH.out)
       replace sK := ak (bC sK.out)
       replace HI0 := ak (aK.drew HI0.out)
       replace HK := ak (yF HK.out)
       replace HB := ak (iF HB.out)
       refine Df (n := 10) (S := fun w' => w'.cell? ⟨Cj, 0, none⟩ = some (.slice MI IV.length MJ) ∧ w'.cell? ⟨Cj, 1, none⟩ = some (.slice none 0 0) ∧ w'.cell? ⟨Cj, 2, none⟩ = some (yS)) (ds := [9]) #[false, false, false, false, false, false, false, false, false, false] (by kernel_rfl) rfl rfl ⟨(aA sK.out 0).trans rfl, (aA sK.out 1).trans rfl, (aA sK.out 2).trans rfl⟩ (fun hHeld => ?_); refine uo dY.apC dY.ajf (fun ug Yd => ?_)
       generalize wr.drew = w36 at qZ nJ oH sK HI0 HK HB hHeld ⊢
       refine pl 0 ?_
       refine pl 2 ?_
       refine pl 3 ?_
       refine pl 4 ?_
       refine tk 1 ?_
       refine o1 5 (fun K hK => ?_)
       refine y8 Tryz.func56 (by kernel_rfl) rfl #[.pointer (some ⟨g, 0, none⟩), .int .i64 (wrap64 (a1 - 1))] (by rfl) rfl rfl ma ?_
       with_reducible refine (ih k2 (by have := HJ2.out; have := Zw.out; omega) g eY Af (wrap64 (a1 - 1)) aeN aeO aeP aAg w0 _ ?fU ?iW A34.out).mono ?_
       (case fU => exact oZ)
       (case iW => exact o7)
       rintro e w37 ⟨aIk, aIl, aIm, rfl, ho0, ho1, ho2, hi, hb, hk⟩
       refine ⟨_, rfl, ?_⟩
       have aeQ := ak (Kd.aC (Kd.gK ho0 (Kd.kU (ur qZ.out))) (dI (w := w) (g := g) (row := none) (kh HK.out)))
       have aeR := ak (Kd.aC ho1 (dI (w := w) (g := g) (row := none) (kh HK.out)))
       have aeS := ak (Kd.aC (Kd.nN (Kd.nN (Kd.gK (Kd.gK ho2 (Kd.kU (ur qZ.out))) (Kd.kU (ur nJ.out))) (g := AL) (o := .cells #[.slice none 0 0, .slice none 0 0, .slice none 0 0] 28 (0, 0)) (ub oH.out)) (g := Cj) (o := .cells #[.slice MI IV.length MJ, .slice none 0 0, yS] 28 (0, 0)) (ub sK.out)) (dI (w := w) (g := g) (row := none) (kh HK.out)))
       replace qZ := kj qZ hk ho0
       replace nJ := ak (Kd.bn (Kd.tV (Kd.tV (Kd.tV (Kd.UU (aK.apart (show aK w0 _ g eY Af from oZ) (ur nJ.out) (by decide)) hk) (Kd.fO ho0)) (Kd.fO ho1)) (Kd.fO ho2)) (fun _ h_ => h_.1))
       replace oH := kc oH hk D_
       replace sK := kc sK hk Pg
       replace HK := kt HK hk
       replace HB := ak (hb)
       replace HI0 := ak (hi)
       try clear hb
       try clear hk
       try clear hi
       try clear ho0
       try clear ho1
       try clear ho2
       obtain ⟨aum, aoc, aeT⟩ := Kd.aV aeQ.out
       (first | subst aeT | (injection aeT with qV xB qW; have xC := qV.symm; have xE := qW.symm; clear qV xB qW; subst xC; subst xE))
       obtain ⟨aAh, aAi, aun⟩ := Kd.aV aeR.out
       (first | subst aun | (injection aun with qV xB qW; have xC := qV.symm; have xE := qW.symm; clear qV xB qW; subst xC; subst xE))
       obtain ⟨aAj, aAk, auo⟩ := Kd.aV aeS.out
       (first | subst auo | (injection auo with qV xB qW; have xC := qV.symm; have xE := qW.symm; clear qV xB qW; subst xC; subst xE))
       refine hK.out _ _ sx (fun hHeld => ?_)
       clear hK K
       refine nrm ?_
       refine o1 6 (fun K hK => ?_)
       refine Dh (w1 := ?_) (v := ?_) (by rfl) rfl ?_ ?_
       rotate_left 2
       ·
        go_simp
        constructor
        ·
         rfl
        ·
         rfl
       refine hK.out _ _ ⟨(aA (aX sK.out _) 0).trans rfl, (aA (aX sK.out _) 1).trans rfl, (aA (aX sK.out _) 2).trans rfl⟩ (fun hHeld => ?_)
       clear hK K
       refine nrm ?_
       refine o1 7 (fun K hK => ?_)
       refine Kd.nS k28 w.heap.size (by rfl) (.tmp 31) (.tmp 36) 26 28 (.agg #[(.slice none 0 0), (.slice none 0 0), (.slice none 0 0)]) 72 rfl Tryz.underlying26 T_ rfl (by decide) (by omega) yS yG (⟨aeN, aeO, aeP⟩ : mY) [.slice aum aeN.length aoc, .slice aAh aeO.length aAi, .slice aAj aeP.length aAk] (fun k_ => some k_ ≠ (.slice MI IV.length MJ : Value).ownBlock ∧ k_ ≠ AL ∧ k_ ≠ Cj) (fun k_ => ((fun k_ => some k_ ≠ (.slice MI IV.length MJ : Value).ownBlock ∧ k_ ≠ AL ∧ k_ ≠ Cj)) k_ ∧ some k_ ≠ (yS : Value).ownBlock) rfl rfl ?aP (fun _ hk => hk) ?aF ?aO (Below.refl _ _) ?aS ?aL ?_
       (case aP => exact OY _ _ _ (⟨aeN, aeO, aeP⟩ : mY) (Kd.bn (Kd.mG (Kd.mG (Kd.o8 (aeQ.out) (Kd.kQ nJ.out) (by decide)) oH.out (by decide)) sK.out (by decide)) (fun k_ hk => ⟨⟨hk.1.1.1.2, ⟨hk.1.2, hk.2⟩⟩, hk.1.1.2⟩)) (Kd.bn (Kd.mG (Kd.mG (Kd.o8 (Kd.o8 (aeR.out) (Kd.kQ qZ.out) (by decide)) (Kd.kQ nJ.out) (by decide)) oH.out (by decide)) sK.out (by decide)) (fun k_ hk => ⟨⟨hk.1.1.1.2, ⟨hk.1.2, hk.2⟩⟩, hk.1.1.2⟩)) (Kd.bn (aeS.out) (fun k_ hk => ⟨⟨hk.1.1.1.2, ⟨hk.1.2, hk.2⟩⟩, hk.1.1.2⟩)))
       (case aF => exact (fun k_ hk => ⟨Kd.fresh' (Kd.kU (ur qZ.out)) k_ hk, Kd.yC (g := AL) (o := .cells #[.slice none 0 0, .slice none 0 0, .slice none 0 0] 28 (0, 0)) (ub oH.out) k_ hk, Kd.yC (g := Cj) (o := .cells #[.slice MI IV.length MJ, .slice none 0 0, yS] 28 (0, 0)) (ub sK.out) k_ hk⟩))
       (case aO => exact (ur (Kd.bn nJ.out (fun _ hk => ⟨hk.1.1.1.1, ⟨hk.1.1.1.2.1, hk.1.1.1.2.2⟩⟩))))
       (case aS => exact (dI (w := w) (g := g) (row := none) (kh HK.out)))
       (case aL => have := aec.out; omega)
       intro aIn w38 ho hb hg hat
       rw [← ald.out] at ho
       have y5 := ak (Kd.qm (ur qZ.out) (Kd.kQ (ur nJ.out)) (by decide) hg)
       have y7 := ak (dw (g := AL) (o := .cells #[.slice none 0 0, .slice none 0 0, .slice none 0 0] 28 (0, 0)) (ub oH.out) hg (Kd.zD nJ.out (fun _ hk => hk.1.1.1.2.1)))
       have zT := ak (dw (g := Cj) (o := .cells #[.slice MI IV.length MJ, .slice none 0 0, yS] 28 (0, 0)) (ub sK.out) hg (Kd.zD nJ.out (fun _ hk => hk.1.1.1.2.2)))
       have Dq := ak (aK.grown oZ hg (aK.own_ne HI0.out nJ.out (by decide)))
       have Ib := ak (vU o7 HL.out hb)
       have Kr := ak (aJ.trans (kh HK.out) (aJ.zo hg g) (Kd.GX nJ.out))
       have N7 := ak (ho)
       clear qZ oH sK HI0 HB HK nJ aeQ aeR aeS
       have qZ := y5
       have oH := y7
       have sK := zT
       have HI0 := Dq
       have HB := Ib
       have HK := Kr
       have aup := N7
       clear y5 y7 zT Dq Ib Kr N7 ho hb hg hat
       obtain ⟨auq, aur, aeU⟩ := Kd.aV aup.out
       (first | subst aeU | (injection aeU with qV xB qW; have xC := qV.symm; have xE := qW.symm; clear qV xB qW; subst xC; subst xE))
       refine hK.out _ _ sx (fun hHeld => ?_)
       clear hK K
       refine nrm ?_
       refine pl 8 ?_
       refine Ia (i := 9) (N := none) #[true, true, true, true, true, true, true, true, true, true] rfl rfl (oK ug.out (by kernel_rfl)) (by decide) (fun K hK => ?_)
       have aAl : w38.cell? ⟨Cj, 2, none⟩ = some (yS) := (aA sK.out 2).trans rfl
       have aus := gX sK.out 2
       have aie := MK.out
       have aif := ML.out
       refine Ic (w1 := ?_) (by rfl) rfl ?_ ?_
       rotate_left
       ·
        go_simp
        rfl
       refine hK.out _ _ ?_
       clear hK K
       refine Ie (yQ ug.out (by kernel_rfl)) ?_
       try go_wp2
       go_roundg k2
       case measure => exact kl
       case rel => exact ⟨_, _, _, _, rs, H', ⟨kl⟩, ⟨rr⟩, ⟨rr⟩, ⟨bq⟩, ⟨bq⟩, ⟨oZ⟩, ⟨kh HK.out⟩, ⟨o7⟩⟩
      ·
       have SI : decide (0 < qL) = false := decide_eq_false c33
       clear c33
       obtain ⟨rfl, rfl, rfl, rfl⟩ := s4 H
       have aDn := ML.out
       have aDo := MK.out
       have aDp := Pg.out
       have aDq := aa6.out
       have z46 := jW sK.out
       have ale := D_.out
       have alf := aa5.out
       have z48 := jW oH.out
       obtain ⟨acD, acE, aez⟩ := Kd.aV nJ.out
       subst aez
       go_wp2
       refine bodyPost_ret (results_cell_row rfl _ _ AL 28 #[.slice MI IV.length MJ, .slice none 0 0, .slice acD yG.length acE] (0, 0) _ rfl bq Tryz.underlying28 rfl (by kernel_rfl)) rfl ?_
       exact ⟨_, _, _, er, rr, nx, ur (Kd.bn (Kd.lS (p := ⟨AL, 2, none⟩) (Kd.lS (p := ⟨AL, 1, none⟩) (Kd.lS (p := ⟨AL, 0, none⟩) (Kd.bn nJ.out (fun k_ hk => (⟨hk, hk.2.1⟩ : _ ∧ k_ ≠ AL))) (fun _ hk => hk.2) (.slice MI IV.length MJ)) (fun _ hk => hk.2) (.slice none 0 0)) (fun _ hk => hk.2) (.slice acD yG.length acE)) (fun _ hk => ⟨hk.1.1, (by simp [Value.ownBlock])⟩)), oZ, o7, kh HK.out⟩
end Go.Proofs.YtncdadcmghglkaaGreatDoor.PFnKidValid
