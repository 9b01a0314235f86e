/- Printed walks; conditions: those in each statement. -/
import Derived.Test.YtncdadcmghglkaaGreatDoorVFnPartLinesQt
import Derived.Test.YtncdadcmghglkaaGreatDoorVFnPartLinesYt
import Derived.Test.YtncdadcmghglkaaGreatDoorPFnPartLinesx0
import Derived.Test.YtncdadcmghglkaaGreatDoorPFnPartLinesx1
import Derived.Test.YtncdadcmghglkaaGreatDoorPFnPartLinesx11
import Derived.Test.YtncdadcmghglkaaGreatDoorPFnPartLinesx12
import Derived.Test.YtncdadcmghglkaaGreatDoorPFnPartLinesx20
import Derived.Test.YtncdadcmghglkaaGreatDoorPFnPartLinesx27
-- fixed
-- short
-- dense
-- sq
-- sq2
namespace Go.Proofs.YtncdadcmghglkaaGreatDoor.PFnPartLines
open Go.RowKit Go.Proofs.YtncdadcmghglkaaGreatDoor.X Go.Proofs.YtncdadcmghglkaaGreatDoorW.bI Go.Proofs.YtncdadcmghglkaaGreatDoorW.iy Go.Proofs.YtncdadcmghglkaaGreatDoorW.iZ
attribute [local go_sem] kZ lg nK nM jW jX lq lu   -- for this text's walks alone
set_option linter.unusedVariables false
set_option maxHeartbeats 8000000
set_option maxRecDepth 100000
set_option linter.unusedSimpArgs false
def dD.j0 : Nat → List ByteArray → Bool → List ByteArray → Bool → Bool → List (gX) → List ByteArray → List (nG) → Option (Bool)
 | 0, _, _, _, _, _, _, _, _ => none
 | k + 1, x4, x5, x6, x7, x38, aeo, aep, aer => if x38 = true then ((fD.f k x4 x6).bind fun ajW => (if ajW = true then (some (x5 == x7)) else (some false))) else ((fG.f k aeo).bind fun Ag => (if Ag.2 = true then (if (x4.length : Int) > (Ag.1.length : Int) then (if 0 ≤ (Ag.1.length : Int) then (if (Ag.1.length : Int) ≤ (x4.length : Int) then ((fD.f k (x4.take ((Ag.1.length : Int) : Int).toNat) Ag.1).bind fun ajX => (if ajX = true then (if (Ag.1.length : Int) < (x4.length : Int) then (if (mX ByteArray.empty x4 (Ag.1.length : Int)).toList = ([] : List UInt8) then (if (aer.length : Int) > 0 then (some true) else (if 0 ≤ (wrap64 ((Ag.1.length : Int) + 1)) then (if (wrap64 ((Ag.1.length : Int) + 1)) ≤ (x4.length : Int) then ((fD.f k (x4.drop ((wrap64 ((Ag.1.length : Int) + 1)) : Int).toNat) aep).bind fun aae => (some aae)) else (none)) else (none))) else (some false)) else (none)) else (some false))) else (none)) else (none)) else (some false)) else (some false)))
def dD.f (k : Nat) (l0 : List Int) : Option (Bool) := if (l0.length : Int) > 1048576 then (some true) else ((lT.f k l0).bind fun Ah => ((pR.f k Ah.1 Ah.2.1 Ah.2.2).bind fun DT => ((pU.f k Ah.1 Ah.2.1 Ah.2.2).bind fun Fb => ((fD.f k DT.1 Fb.1).bind fun ajY => (if ajY = true then (if (DT.2 != Fb.2) = true then (dD.j0 k DT.1 DT.2 Fb.1 Fb.2 true Ah.1 Ah.2.1 Ah.2.2) else (dD.j0 k DT.1 DT.2 Fb.1 Fb.2 (!DT.2) Ah.1 Ah.2.1 Ah.2.2)) else (dD.j0 k DT.1 DT.2 Fb.1 Fb.2 true Ah.1 Ah.2.1 Ah.2.2))))))
def dD.T10 : Bool × List (List Nat × List Nat) := (true, [([], []), ([0], [0]), ([1], [1]), ([2, 1], [1, 2]), ([1], [1]), ([3, 4, 1], [1, 3, 4]), ([1, 5], [1, 5]), ([6, 1], [6]), ([7], [7]), ([7], [7]), ([8, 9, 7], [7, 8, 9]), ([7], [7]), ([10, 11, 7, 7], [7, 10, 11]), ([7, 12], [7, 12]), ([13, 12], [13]), ([14], [14]), ([14], [14]), ([15, 16, 14], [14, 15, 16]), ([17, 14], [14, 17]), ([18, 14], [14, 18]), ([14, 19], [14, 19]), ([20, 14], [20]), ([21], [21]), ([22, 21], [21, 22]), ([23, 21], [21, 23]), ([24, 21], [21, 24]), ([25, 21, 21], [21, 25]), ([26], [26]), ([26], [26]), ([28, 26], [26, 28]), ([27, 29, 26], [26, 27, 29]), ([26], [26]), ([31, 26], [26, 31]), ([30, 32, 26, 26], [26, 30, 32]), ([26, 33, 21], [21, 26, 33]), ([21, 34], [21, 34]), ([35, 33, 0, 1, 2, 3, 4, 5, 6, 7, 8, 9, 10, 11, 12, 13, 14, 15, 16, 17, 18, 19, 20, 21, 22, 23, 24, 25, 26, 27, 28, 29, 30, 31, 32, 33, 34, 35], [35])])
def dD.B10 : List Nat := [0, 1, 3, 7, 3, 31, 63, 127, 255, 255, 1023, 255, 4095, 8191, 16383, 32767, 32767, 131071, 262143, 524287, 1048575, 2097151, 4194303, 8388607, 16777215, 33554431, 67108863, 134217727, 134217727, 402653183, 1073741823, 134217727, 2281701375, 8589934591, 17179869183, 34359738367, 68719476735]
theorem dD.asK : rU .any (opsOf Tryz.f9 10) = dD.T10 := by kernel_rfl
theorem dD.amB : nD dD.T10.2 dD.B10 = true := by kernel_rfl
theorem dD.calls {k c0 : Nat} {A0 : Option Addr} {l0 : List Int} {r : Bool} {w : World} (hr0 : Kd.C (Kd.int .u8) w A0 l0.length l0) (hc0 : l0.length ≤ c0) (CB : MaxOk w) (h : dD.f k l0 = some r) :
  Calls Tryz.prog 9 #[.slice A0 l0.length c0] w fun e w' => e = .returned (.bool r) ∧ Below w.heap.size w w' := by
 have EH := Tryz.underlying28
 have HR0 := ak hr0
 have xE := ak hc0
 clear hr0 hc0
 have HG := ak CB
 clear CB
 have HB := ak (Below.refl w.heap.size w)
 unfold dD.f at h; have H := h
 clear h
 replace H := sp H
 rcases H with ⟨c2, H⟩ | ⟨c2, H⟩
 ·
  have ou : decide (1048576 < (l0.length : Int)) = true := decide_eq_true c2
  have vK : decide (1048576 < l0.length) = true := decide_eq_true (by omega)
  clear c2
  obtain rfl := s1 H
  go_enter Tryz.func9, Tryz.ntmps9
  go_wp2
  go_ret
  exact ⟨er, ul HB.out⟩
 ·
  have ou : decide (1048576 < (l0.length : Int)) = false := decide_eq_false c2
  have vK : decide (1048576 < l0.length) = false := decide_eq_false (by omega)
  clear c2
  replace H := bd H
  obtain ⟨⟨NW, Ai, BH⟩, A3, H⟩ := H
  (try dsimp only at H)
  replace H := bd H
  obtain ⟨⟨kP, Np⟩, A4, H⟩ := H
  (try dsimp only at H)
  replace H := bd H
  obtain ⟨⟨ajZ, Nq⟩, A5, H⟩ := H
  (try dsimp only at H)
  have HC6 := ak H
  clear H
  go_enter Tryz.func9, Tryz.ntmps9
  go_upto_region 6 with (first | (refine gL 23 15 Tryz.func23 #[.slice A0 l0.length c0] ?_; (with_reducible refine (lT.calls (cu HR0.out) xE.out A3.out).mono ?_); rintro e w7 ⟨aGQ, aCf, aCg, rfl, ho0, ho1, ho2, hb⟩; refine ⟨_, rfl, ?_⟩; have BI := ak (Kd.aC ho0 (aj (ul HB.out))); have vN := ak (Kd.aC ho1 (aj (ul HB.out))); have xu := ak (Kd.aC ho2 (aj (ul HB.out))); replace HB := bs HB hb; clear hb; (try clear ho0); (try clear ho1); (try clear ho2)) | (refine gG 3 ?_; refine bY HB 3 #[.slice none 0 0, .slice none 0 0, .slice none 0 0] 28 ?_; intro tY w8 gZ azt hg hb; replace BI := rb BI hb; replace vN := rb vN hb; replace xu := ak (Kd.sQ (Kd.yJ (ur xu.out) tY (Nat.le_of_eq hg.symm)) hb); replace HB := bs HB hb; clear hb hg; obtain ⟨Ao9, co9, eo9⟩ := Kd.aI BI.out; subst eo9; have z10 := kK gZ.out; obtain ⟨yc, wM, PI⟩ := Kd.aI vN.out; subst PI; obtain ⟨y7, xP, OT⟩ := Kd.aI xu.out; subst OT) | (refine gV Tryz.func24 (pR.calls ?fZ ((Kd.ay BI.out).2.1) ?yO ((Kd.ay vN.out).2.1) ?yP ((Kd.ay xu.out).2.1) ?Ae A4.out) ?_; (case fZ => refine (Kd.ay (e := 69) (base := w.heap.size) (ok := fun k_ => True) (n := NW.length) (c := co9) ?_).2.2; exact (rh BI)); (case yO => refine (Kd.ay (e := 9) (base := w.heap.size) (ok := fun k_ => True) (n := Ai.length) (c := wM) ?_).2.2; exact (rh vN)); (case yP => refine (Kd.ay (e := 28) (base := w.heap.size) (ok := fun k_ => ((some k_ ≠ (.slice Ao9 NW.length co9 : Value).ownBlock ∧ some k_ ≠ (.slice yc Ai.length wM : Value).ownBlock) ∧ k_ ≠ tY)) (n := BH.length) (c := xP) ?_).2.2; exact (ur (Kd.aY (Kd.lK (p := ⟨tY, 2, none⟩) (Kd.lK (p := ⟨tY, 1, none⟩) (Kd.lK (p := ⟨tY, 0, none⟩) (Kd.aY xu.out (fun k_ hk => (⟨hk, hk.2⟩ : _ ∧ k_ ≠ tY))) (fun _ hk => hk.2) (.slice Ao9 NW.length co9)) (fun _ hk => hk.2) (.slice yc Ai.length wM)) (fun _ hk => hk.2) (.slice y7 BH.length xP)) (fun _ h_ => h_.1)))); (case Ae => first | exact HG.out | exact MaxOk.below HG.out bb | (repeat (first | exact HG.out | apply MaxOk.drewN | apply MaxOk.drew))); rintro aaf w13 ⟨ho0, hb⟩; have vY := ak (Kd.aC (Kd.dR ho0 (Kd.jh (rh vN))) (aj bb)); replace BI := rg BI hb; replace vN := ak (Kd.bH (rh vN) (Kd.bZ ho0) hb); replace xu := ak (Kd.bH (ur (Kd.aY (Kd.lK (p := ⟨tY, 2, none⟩) (Kd.lK (p := ⟨tY, 1, none⟩) (Kd.lK (p := ⟨tY, 0, none⟩) (Kd.aY xu.out (fun k_ hk => (⟨hk, hk.2⟩ : _ ∧ k_ ≠ tY))) (fun _ hk => hk.2) (.slice Ao9 NW.length co9)) (fun _ hk => hk.2) (.slice yc Ai.length wM)) (fun _ hk => hk.2) (.slice y7 BH.length xP)) (fun _ h_ => h_.1))) (Kd.bZ ho0) hb); replace gZ := kp gZ #[.slice Ao9 NW.length co9, .slice yc Ai.length wM, .slice y7 BH.length xP] hb; replace HB := bz HB hb; clear hb; (try clear ho0); have z14 := kK gZ.out) | (refine gV Tryz.func25 (pU.calls (cu ((Kd.ay BI.out).2.2)) ((Kd.ay BI.out).2.1) (cu ((Kd.ay vN.out).2.2)) ((Kd.ay vN.out).2.1) (cu ((Kd.ay xu.out).2.2)) ((Kd.ay xu.out).2.1) A5.out) ?_; rintro aag w15 ⟨ho0, hb⟩; have zo := ak (Kd.aC (Kd.dR (Kd.dR ho0 (Kd.jh (ur vN.out))) (Kd.jh (ur vY.out))) (aj bb)); replace BI := rb BI hb; replace vN := ak (Kd.bH (ur vN.out) (Kd.bZ ho0) hb); replace xu := ak (Kd.bH (ur xu.out) (Kd.bZ ho0) hb); replace vY := ak (Kd.bH (ur vY.out) (Kd.bZ ho0) hb); replace gZ := kb gZ hb; replace HB := bz HB hb; clear hb; (try clear ho0)))
  (try simp only [Act.put, yT, yU, l_c])
  go_cut [38] (fun v38 wc => ∃ (kq : Nat) (aes : Bool), v38 = .bool aes ∧ ah (dD.j0 kq kP Np ajZ Nq aes NW Ai BH = some r) ∧ ah (kq ≤ k) ∧ ah (Kd.R Kd.string 9 wc w.heap.size (fun k_ => some k_ ≠ (aag : Value).ownBlock ∧ some k_ ≠ ((.slice yc Ai.length wM) : Value).ownBlock) aaf kP) ∧ ah (Kd.R Kd.string 9 wc w.heap.size (fun k_ => some k_ ≠ (aaf : Value).ownBlock ∧ some k_ ≠ ((.slice yc Ai.length wM) : Value).ownBlock) aag ajZ) ∧ ah (Kd.R qI 69 wc w.heap.size (fun _ => True) (.slice Ao9 NW.length co9) NW) ∧ ah (Kd.R Kd.string 9 wc w.heap.size (fun k_ => some k_ ≠ (aaf : Value).ownBlock ∧ some k_ ≠ (aag : Value).ownBlock) (.slice yc Ai.length wM) Ai) ∧ ah (Kd.R k28 28 wc w.heap.size (fun k_ => some k_ ≠ (aaf : Value).ownBlock ∧ some k_ ≠ (aag : Value).ownBlock ∧ some k_ ≠ ((.slice Ao9 NW.length co9) : Value).ownBlock ∧ some k_ ≠ ((.slice yc Ai.length wM) : Value).ownBlock ∧ k_ ≠ tY) (.slice y7 BH.length xP) BH) ∧ ah (wc.heap[tY]? = some (.cells #[(.slice Ao9 NW.length co9), (.slice yc Ai.length wM), (.slice y7 BH.length xP)] 28 (0, 0))) ∧ ah (Below w.heap.size w wc))
  case first =>
   have H := HC6.out
   clear HC6
   replace H := bd H; obtain ⟨ajY, ZE, H⟩ := H; replace H := sb H
   rcases H with ⟨rfl, H⟩ | ⟨rfl, H⟩
   ·
    replace H := sp H
    rcases H with ⟨c18, H⟩ | ⟨c18, H⟩
    ·
     have vF : (Np != Nq) = true := c18
     (try (have I9 : decide (Np = Nq) = false := by simpa using c18))
     (try (have ZA : (Np == Nq) = false := by simpa using c18))
     (try (have aCh : ¬ (Np = Nq) := by simpa using c18))
     clear c18
     (first | rw [vF] | (simp only [iK, jI]; rw [vF]) | skip)
     have H' := ak H; clear H
     obtain ⟨azu, azv, anf⟩ := Kd.aI vY.out
     subst anf
     obtain ⟨NM, NP, Tj⟩ := Kd.aI zo.out
     subst Tj
     go_wp2_with (refine gA Tryz.func22 (fD.calls (cu ((Kd.ay vY.out).2.2)) ((Kd.ay vY.out).2.1) (cu ((Kd.ay zo.out).2.2)) ((Kd.ay zo.out).2.1) ZE.out) ?_; intro nd)
     go_meet
     case rel => exact ⟨_, _, rs, H', ⟨IL⟩, ⟨ur (Kd.aY vY.out (fun _ hk => ⟨hk.2, hk.1.2⟩))⟩, ⟨ur (Kd.aY zo.out (fun _ hk => ⟨hk.2, hk.1.2⟩))⟩, ⟨ur BI.out⟩, ⟨ur (Kd.aY vN.out (fun _ hk => ⟨hk.1.2, hk.2⟩))⟩, ⟨ur (Kd.aY xu.out (fun _ hk => ⟨hk.1.2, ⟨hk.2, ⟨hk.1.1.1.1, ⟨hk.1.1.1.2, hk.1.1.2⟩⟩⟩⟩))⟩, ⟨ub gZ.out⟩, ⟨bb⟩⟩
    ·
     have vF : (Np != Nq) = false := by simpa using c18
     (try (have I9 : decide (Np = Nq) = true := by simpa using c18))
     (try (have ZA : (Np == Nq) = true := by simpa using c18))
     clear c18
     (first | rw [vF] | (simp only [iK, jI]; rw [vF]) | skip)
     have H' := ak H; clear H
     obtain ⟨KX, KY, SV⟩ := Kd.aI vY.out
     subst SV
     obtain ⟨ayI, ayJ, al9⟩ := Kd.aI zo.out
     subst al9
     go_wp2_with (refine gA Tryz.func22 (fD.calls (cu ((Kd.ay vY.out).2.2)) ((Kd.ay vY.out).2.1) (cu ((Kd.ay zo.out).2.2)) ((Kd.ay zo.out).2.1) ZE.out) ?_; intro nd)
     go_meet
     case rel => exact ⟨_, _, rs, H', ⟨IL⟩, ⟨ur (Kd.aY vY.out (fun _ hk => ⟨hk.2, hk.1.2⟩))⟩, ⟨ur (Kd.aY zo.out (fun _ hk => ⟨hk.2, hk.1.2⟩))⟩, ⟨ur BI.out⟩, ⟨ur (Kd.aY vN.out (fun _ hk => ⟨hk.1.2, hk.2⟩))⟩, ⟨ur (Kd.aY xu.out (fun _ hk => ⟨hk.1.2, ⟨hk.2, ⟨hk.1.1.1.1, ⟨hk.1.1.1.2, hk.1.1.2⟩⟩⟩⟩))⟩, ⟨ub gZ.out⟩, ⟨bb⟩⟩
   ·
    have H' := ak H; clear H
    obtain ⟨PK, NV, aef⟩ := Kd.aI vY.out
    subst aef
    obtain ⟨JQ, JR, ang⟩ := Kd.aI zo.out
    subst ang
    go_wp2_with (refine gA Tryz.func22 (fD.calls (cu ((Kd.ay vY.out).2.2)) ((Kd.ay vY.out).2.1) (cu ((Kd.ay zo.out).2.2)) ((Kd.ay zo.out).2.1) ZE.out) ?_; intro nd)
    go_meet
    case rel => exact ⟨_, _, rs, H', ⟨IL⟩, ⟨ur (Kd.aY vY.out (fun _ hk => ⟨hk.2, hk.1.2⟩))⟩, ⟨ur (Kd.aY zo.out (fun _ hk => ⟨hk.2, hk.1.2⟩))⟩, ⟨ur BI.out⟩, ⟨ur (Kd.aY vN.out (fun _ hk => ⟨hk.1.2, hk.2⟩))⟩, ⟨ur (Kd.aY xu.out (fun _ hk => ⟨hk.1.2, ⟨hk.2, ⟨hk.1.1.1.1, ⟨hk.1.1.1.2, hk.1.1.2⟩⟩⟩⟩))⟩, ⟨ub gZ.out⟩, ⟨bb⟩⟩
  case rest =>
   clear HC6
   try clear c2
   try clear ou
   try clear vK
   obtain ⟨kq, aes, rfl, HA, HJ5, dO, jg, dU, fA, ig, gZ, HB⟩ := hcut
   cases kq with
   | zero => exact zz HA.out
   | succ kj5 =>
    obtain ⟨H⟩ := HA
    simp only [dD.j0] at H
    replace H := sb H
    rcases H with ⟨rfl, H⟩ | ⟨rfl, H⟩
    ·
     replace H := bd H; obtain ⟨ajW, A26, H⟩ := H; replace H := sb H
     rcases H with ⟨rfl, H⟩ | ⟨rfl, H⟩
     ·
      obtain rfl := s1 H
      obtain ⟨amZ, am0, am1⟩ := Kd.aI dO.out
      subst am1
      obtain ⟨QI, QJ, abm⟩ := Kd.aI jg.out
      subst abm
      go_wp2_with (refine gA Tryz.func22 (fD.calls (cu ((Kd.ay dO.out).2.2)) ((Kd.ay dO.out).2.1) (cu ((Kd.ay jg.out).2.2)) ((Kd.ay jg.out).2.1) A26.out) ?_; intro nd)
      go_ret
      exact ⟨er, bb⟩
     ·
      obtain rfl := s1 H
      obtain ⟨al3, al4, abt⟩ := Kd.aI dO.out
      subst abt
      obtain ⟨aha, ahb, abJ⟩ := Kd.aI jg.out
      subst abJ
      go_wp2_with (refine gA Tryz.func22 (fD.calls (cu ((Kd.ay dO.out).2.2)) ((Kd.ay dO.out).2.1) (cu ((Kd.ay jg.out).2.2)) ((Kd.ay jg.out).2.1) A26.out) ?_; intro nd)
      go_ret
      exact ⟨er, bb⟩
    ·
     replace H := bd H
     obtain ⟨⟨lS, aCi⟩, A32, H⟩ := H
     (try dsimp only at H)
     replace H := sb H
     rcases H with ⟨rfl, H⟩ | ⟨rfl, H⟩
     ·
      replace H := sp H
      rcases H with ⟨c34, H⟩ | ⟨c34, H⟩
      ·
       have OY : decide ((lS.length : Int) < (kP.length : Int)) = true := decide_eq_true c34
       have OZ : decide (lS.length < kP.length) = true := decide_eq_true (Int.ofNat_lt.mp c34)
       clear c34
       replace H := yL H; obtain ⟨Ze, adz, H⟩ := H; replace H := yL H; obtain ⟨adn, aiR, H⟩ := H
       obtain ⟨Nr, DU⟩ := nm (kP.take ((lS.length : Int) : Int).toNat)
       rw [← DU.out] at H
       replace H := bd H; obtain ⟨ajX, A37, H⟩ := H; replace H := sb H
       rcases H with ⟨rfl, H⟩ | ⟨rfl, H⟩
       ·
        replace H := nn H; obtain ⟨c39, H⟩ := H
        have ajv := decide_eq_true c39
        have ajw : decide (lS.length < kP.length) = true := decide_eq_true (Int.ofNat_lt.mp c39)
        clear c39
        replace H := sp H
        rcases H with ⟨c40, H⟩ | ⟨c40, H⟩
        ·
         have atL := beq_iff_eq.mpr c40
         have azw : ((mX ByteArray.empty kP (lS.length : Int)).toList).isEmpty = true := List.isEmpty_iff.mpr c40
         have atM := bne_eq_false_iff_eq.mpr c40
         clear c40
         replace H := sp H
         rcases H with ⟨c41, H⟩ | ⟨c41, H⟩
         ·
          have atN : decide (0 < (BH.length : Int)) = true := decide_eq_true c41
          have atO : decide (0 < BH.length) = true := decide_eq_true (by omega)
          clear c41
          obtain rfl := s1 H
          have z42 := kK gZ.out
          try go_wp2_with (refine gV Tryz.func39 (fG.calls (cu ((Kd.ay dU.out).2.2)) ((Kd.ay dU.out).2.1) A32.out) ?_; rintro VW w43 ⟨ho0, hb⟩; have kQ := ak (Kd.aC (Kd.dR (Kd.dR (Kd.dR ho0 (Kd.jh (ur dO.out))) (Kd.jh (ur jg.out))) (Kd.jh (ur fA.out))) (aj bb)); replace dO := ak (Kd.bH (ur dO.out) (Kd.bZ ho0) hb); replace jg := ak (Kd.bH (ur jg.out) (Kd.bZ ho0) hb); replace dU := rb dU hb; replace fA := ak (Kd.bH (ur fA.out) (Kd.bZ ho0) hb); replace ig := ak (Kd.bH (ur ig.out) (Kd.bZ ho0) hb); replace gZ := kb gZ hb; replace HB := bz HB hb; clear hb; (try clear ho0); obtain ⟨aby, abz, VD⟩ := Kd.aI kQ.out; subst VD)
          replace dO := ak (Kd.fV dO.out)
          replace jg := ak (Kd.fV jg.out)
          replace dU := ak (Kd.fV dU.out)
          replace fA := ak (Kd.fV fA.out)
          replace ig := ak (Kd.fV ig.out)
          replace kQ := ak (Kd.fV kQ.out)
          replace gZ := ak (iQ gZ.out)
          replace HB := ak (fQ HB.out)
          obtain ⟨atP, anh, atQ⟩ := Kd.aI dO.out
          (first | subst atQ | (injection atQ with oM uz oN; have uD := oM.symm; have uF := oN.symm; clear oM uz oN; subst uD; subst uF))
          have q47 : ((lS.length : Int) : Int) ≤ ((kP.length : Int) : Int) := of_decide_eq_true (by assumption)
          obtain ⟨aGR, aj0, _, atS, _⟩ := info_parts info9
          have aah : kP.length ≤ anh := (Kd.ay dO.out).2.1
          have atT : Kd.C Kd.string _ atP kP.length kP := (Kd.ay dO.out).2.2
          have ani := ET (P := Tryz.prog) 23 9 .i64 Tryz.underlying23 aj0 atP kP.length anh (lS.length : Int) (of_decide_eq_true (by assumption)) q47 aah
          have hr47 := Kd.EU (m := ((lS.length : Int) : Int).toNat) atT (by omega)
          have hy47 : Nr.length = ((lS.length : Int) : Int).toNat := (by rw [DU.out, List.length_take]; omega)
          rw [← DU.out] at hr47
          rw [← hy47] at ani
          have vZ := ak hr47
          have Ie := ak (show Nr.length ≤ anh from by omega)
          clear hr47 atT aah aj0 atS
          have aGS := ak hy47
          clear hy47
          have aGT := ak (show ((lS.length : Int) : Int).toNat ≤ kP.length from by omega)
          replace q47 := eq_true q47
          have Fe := zi (lS.length : Int)
          have Fg := zj (lS.length : Int) kP.length
          obtain ⟨DV, VX, uP⟩ := Kd.iU (Kd.ay dO.out).2.2 (lS.length : Int) Fe Fg
          cases VX
          (try simp only [Go.IntWalk.toNatUp] at uP)
          replace Fe := eq_true Fe
          replace Fg := eq_true Fg
          refine ro [12] [0, 1, 2, 3, 4, 5, 6, 7, 8, 9, 10, 11, 12, 13, 14, 15, 16, 17, 18, 19, 20, 21, 22, 23, 24, 25, 26, 27, 28, 29, 30, 31, 32, 33, 34, 35, 36] (fun w' => w'.cell? ⟨tY, 0, none⟩ = some (.slice Ao9 NW.length co9) ∧ w'.cell? ⟨tY, 1, none⟩ = some (.slice yc Ai.length wM) ∧ w'.cell? ⟨tY, 2, none⟩ = some (.slice y7 BH.length xP) ∧ w'.cell? (DV.add lS.length) = some (.string (mX ByteArray.empty kP (lS.length : Int)))) ⟨(aA gZ.out 0).trans rfl, (aA gZ.out 1).trans rfl, (aA gZ.out 2).trans rfl, uP⟩ ?_
          generalize w43.drew = w45 at dO jg dU fA ig kQ gZ HB vZ uP ⊢
          repeat (first | (refine lk (v := ?_) (a' := ?_) (gk.trans rfl) rfl rfl ?_ ?_ ?_; rotate_left; (focus (rintro w' ⟨s0, s1, s2, s3⟩; go_simp; with_reducible rfl)); rotate_left; (focus (simp only [Act.put, yT, yU, l_c, iK, jI]; rfl))) | (refine lf (a' := ?_) (gk.trans rfl) rfl rfl ?_ ?_; rotate_left; (focus (simp only [Act.put, yT, yU, l_c, iK, jI]; rfl))))
          refine rA Tryz.func22 (fD.calls (cu (by repeat (first | (with_reducible exact vZ.out) | (with_reducible refine Kd.ni ?_ _) | (with_reducible refine Kd.nC ?_ _) | (with_reducible refine Kd.pY ?_) | exact vZ.out))) Ie.out (cu ((Kd.ay kQ.out).2.2)) ((Kd.ay kQ.out).2.1) A37.out) ?_
          intro nd
          refine ⟨⟨(aA gZ.out 0).trans rfl, (aA gZ.out 1).trans rfl, (aA gZ.out 2).trans rfl, uP⟩, ?_⟩
          repeat (first | (refine lk (v := ?_) (a' := ?_) (gk.trans rfl) rfl rfl ?_ ?_ ?_; rotate_left; (focus (rintro w' ⟨s0, s1, s2, s3⟩; go_simp; with_reducible rfl)); rotate_left; (focus (simp only [Act.put, yT, yU, l_c, iK, jI]; rfl))) | (refine lf (a' := ?_) (gk.trans rfl) rfl rfl ?_ ?_; rotate_left; (focus (simp only [Act.put, yT, yU, l_c, iK, jI]; rfl))))
          refine on ?_
          try go_wp2
          go_ret
          exact ⟨er, bb⟩
         ·
          have atN : decide (0 < (BH.length : Int)) = false := decide_eq_false c41
          have atO : decide (0 < BH.length) = false := decide_eq_false (by omega)
          clear c41
          obtain ⟨Ig, Rw⟩ : ∃ j_ : Int, (wrap64 ((lS.length : Int) + 1)) = j_ := ⟨_, rfl⟩
          replace H : (if 0 ≤ (Ig) then (if (Ig) ≤ (kP.length : Int) then ((fD.f kj5 (kP.drop ((Ig) : Int).toNat) Ai).bind fun aae => (some aae)) else (none)) else (none)) = some r := by first | (rw [Rw] at H; exact H) | (simp only [Rw] at H ⊢; exact H)
          (try rw [Rw] at A32)
          (try rw [Rw] at A37)
          have azx : (IntKind.i64.wrap ((lS.length : Int) + 1)) = Ig := (iK _).trans Rw
          replace H := yL H; obtain ⟨ajd, aje, H⟩ := H; replace H := yL H; obtain ⟨aCj, aCk, H⟩ := H
          obtain ⟨VY, XU⟩ := nm (kP.drop ((Ig) : Int).toNat)
          rw [← XU.out] at H
          replace H := bd H; obtain ⟨aae, A51, H⟩ := H
          obtain rfl := s1 H
          have z52 := kK gZ.out
          try go_wp2_with (refine gV Tryz.func39 (fG.calls (cu ((Kd.ay dU.out).2.2)) ((Kd.ay dU.out).2.1) A32.out) ?_; rintro VW w53 ⟨ho0, hb⟩; have kQ := ak (Kd.aC (Kd.dR (Kd.dR (Kd.dR ho0 (Kd.jh (ur dO.out))) (Kd.jh (ur jg.out))) (Kd.jh (ur fA.out))) (aj bb)); replace dO := ak (Kd.bH (ur dO.out) (Kd.bZ ho0) hb); replace jg := ak (Kd.bH (ur jg.out) (Kd.bZ ho0) hb); replace dU := rb dU hb; replace fA := ak (Kd.bH (ur fA.out) (Kd.bZ ho0) hb); replace ig := ak (Kd.bH (ur ig.out) (Kd.bZ ho0) hb); replace gZ := kb gZ hb; replace HB := bz HB hb; clear hb; (try clear ho0); obtain ⟨atU, atV, anj⟩ := Kd.aI kQ.out; subst anj)
          replace dO := ak (Kd.fV dO.out)
          replace jg := ak (Kd.fV jg.out)
          replace dU := ak (Kd.fV dU.out)
          replace fA := ak (Kd.fV fA.out)
          replace ig := ak (Kd.fV ig.out)
          replace kQ := ak (Kd.fV kQ.out)
          replace gZ := ak (iQ gZ.out)
          replace HB := ak (fQ HB.out)
          obtain ⟨acT, O6, acU⟩ := Kd.aI dO.out
          (first | subst acU | (injection acU with oM uz oN; have uD := oM.symm; have uF := oN.symm; clear oM uz oN; subst uD; subst uF))
          have q57 : ((lS.length : Int) : Int) ≤ ((kP.length : Int) : Int) := of_decide_eq_true (by assumption)
          obtain ⟨aGU, aj1, _, atW, _⟩ := info_parts info9
          have aai : kP.length ≤ O6 := (Kd.ay dO.out).2.1
          have atX : Kd.C Kd.string _ acT kP.length kP := (Kd.ay dO.out).2.2
          have ank := ET (P := Tryz.prog) 23 9 .i64 Tryz.underlying23 aj1 acT kP.length O6 (lS.length : Int) (of_decide_eq_true (by assumption)) q57 aai
          have anl := Kd.EU (m := ((lS.length : Int) : Int).toNat) atX (by omega)
          have anm : Nr.length = ((lS.length : Int) : Int).toNat := (by rw [DU.out, List.length_take]; omega)
          rw [← DU.out] at anl
          rw [← anm] at ank
          have vZ := ak anl
          have Ie := ak (show Nr.length ≤ O6 from by omega)
          clear anl atX aai aj1 atW
          have aGV := ak anm
          clear anm
          have aGW := ak (show ((lS.length : Int) : Int).toNat ≤ kP.length from by omega)
          replace q57 := eq_true q57
          have Fe := zi (lS.length : Int)
          have Fg := zj (lS.length : Int) kP.length
          obtain ⟨DV, VX, uP⟩ := Kd.iU (Kd.ay dO.out).2.2 (lS.length : Int) Fe Fg
          cases VX
          (try simp only [Go.IntWalk.toNatUp] at uP)
          replace Fe := eq_true Fe
          replace Fg := eq_true Fg
          refine ro [12, 33] [0, 1, 2, 3, 4, 5, 6, 7, 8, 9, 10, 11, 12, 13, 14, 15, 16, 17, 18, 19, 20, 21, 22, 23, 24, 25, 26, 27, 28, 29, 30, 31, 32, 33, 34, 35, 36] (fun w' => w'.cell? ⟨tY, 0, none⟩ = some (.slice Ao9 NW.length co9) ∧ w'.cell? ⟨tY, 1, none⟩ = some (.slice yc Ai.length wM) ∧ w'.cell? ⟨tY, 2, none⟩ = some (.slice y7 BH.length xP) ∧ w'.cell? (DV.add lS.length) = some (.string (mX ByteArray.empty kP (lS.length : Int)))) ⟨(aA gZ.out 0).trans rfl, (aA gZ.out 1).trans rfl, (aA gZ.out 2).trans rfl, uP⟩ ?_
          generalize w53.drew = w55 at dO jg dU fA ig kQ gZ HB vZ uP ⊢
          repeat (refine lk (v := ?_) (a' := ?_) (gk.trans rfl) rfl rfl ?_ ?_ ?_; rotate_left; (focus (rintro w' ⟨s0, s1, s2, s3⟩; go_simp; with_reducible rfl)); rotate_left; (focus (simp only [Act.put, yT, yU, l_c, iK, jI]; rfl)))
          refine rA Tryz.func22 (fD.calls (cu (by repeat (first | (with_reducible exact vZ.out) | (with_reducible refine Kd.ni ?_ _) | (with_reducible refine Kd.nC ?_ _) | (with_reducible refine Kd.pY ?_) | exact vZ.out))) Ie.out (cu ((Kd.ay kQ.out).2.2)) ((Kd.ay kQ.out).2.1) A37.out) ?_
          intro nd
          have q58 : ((Ig) : Int) ≤ ((kP.length : Int) : Int) := of_decide_eq_true (by assumption)
          obtain ⟨aGX, aj2, _, aj3, _⟩ := info_parts info9
          have Ur : kP.length ≤ O6 := (Kd.ay dO.out).2.1
          have atY : Kd.C Kd.string _ (some DV) kP.length kP := (Kd.ay dO.out).2.2
          have azy : (0 : Int) ≤ ((Ig) : Int) := of_decide_eq_true (by assumption)
          have ano := Vt (P := Tryz.prog) 23 9 .i64 Tryz.underlying23 aj2 1 aj3 (some DV) kP.length O6 (Ig) azy q58
          have aeu := Kd.aev (m := ((Ig) : Int).toNat) (c := O6) atY (by omega) Ur
          obtain ⟨A58, ahc⟩ : ∃ A1, A1 = (if O6 = ((Ig) : Int).toNat then (some DV) else ((some DV) : Option Addr).map (·.add (((Ig) : Int).toNat * 1))) := ⟨_, rfl⟩
          obtain ⟨c58, anp⟩ : ∃ c1, c1 = O6 - ((Ig) : Int).toNat := ⟨_, rfl⟩
          have ahd : VY.length = kP.length - ((Ig) : Int).toNat := (by rw [XU.out, List.length_drop] <;> omega)
          rw [show (kP).drop ((Ig) : Int).toNat = VY from XU.out.symm] at aeu
          replace aeu : Kd.C Kd.string _ A58 VY.length VY := (by rw [ahc]; exact aeu)
          rw [← ahd, ← ahc, ← anp] at ano
          have aew := ak aeu
          have anq := ak (show VY.length ≤ c58 from by rw [ahd, anp]; exact Nat.sub_le_sub_right Ur _)
          clear aeu atY Ur aj2 aj3 anp
          have aGY := ak ahd
          have aGZ := ak ahc
          clear ahd ahc
          have aG0 := ak (show ((Ig) : Int).toNat ≤ kP.length from by omega)
          replace q58 := eq_true q58
          refine ⟨⟨(aA gZ.out 0).trans rfl, (aA gZ.out 1).trans rfl, (aA gZ.out 2).trans rfl, uP⟩, ?_⟩
          repeat (refine lk (v := ?_) (a' := ?_) (gk.trans rfl) rfl rfl ?_ ?_ ?_; rotate_left; (focus (rintro w' ⟨s0, s1, s2, s3⟩; go_simp; with_reducible rfl)); rotate_left; (focus (simp only [Act.put, yT, yU, l_c, iK, jI]; rfl)))
          refine rA Tryz.func22 (fD.calls (cu (by repeat (first | (with_reducible exact aew.out) | (with_reducible refine Kd.ni ?_ _) | (with_reducible refine Kd.nC ?_ _) | (with_reducible refine Kd.pY ?_) | exact aew.out))) anq.out (cu ((Kd.ay fA.out).2.2)) ((Kd.ay fA.out).2.1) A51.out) ?_
          intro nd
          refine ⟨⟨(aA gZ.out 0).trans rfl, (aA gZ.out 1).trans rfl, (aA gZ.out 2).trans rfl, uP⟩, ?_⟩
          repeat (refine lk (v := ?_) (a' := ?_) (gk.trans rfl) rfl rfl ?_ ?_ ?_; rotate_left; (focus (rintro w' ⟨s0, s1, s2, s3⟩; go_simp; with_reducible rfl)); rotate_left; (focus (simp only [Act.put, yT, yU, l_c, iK, jI]; rfl)))
          refine on ?_
          try go_wp2
          go_ret
          exact ⟨by first | rfl | (simp [rV, rW] <;> rfl) | (simp only [← Rw]; first | rfl | (simp [rV, rW] <;> rfl)) | (simp [*, rV, rW] <;> rfl), bb⟩
        ·
         have atL := beq_eq_false_iff_ne.mpr c40
         have azw : ((mX ByteArray.empty kP (lS.length : Int)).toList).isEmpty = false := List.isEmpty_eq_false_iff.mpr c40
         have atM := bne_iff_ne.mpr c40
         obtain rfl := s1 H
         have z59 := kK gZ.out
         try go_wp2_with (refine gV Tryz.func39 (fG.calls (cu ((Kd.ay dU.out).2.2)) ((Kd.ay dU.out).2.1) A32.out) ?_; rintro VW QC ⟨ho0, hb⟩; have kQ := ak (Kd.aC (Kd.dR (Kd.dR (Kd.dR ho0 (Kd.jh (ur dO.out))) (Kd.jh (ur jg.out))) (Kd.jh (ur fA.out))) (aj bb)); replace dO := ak (Kd.bH (ur dO.out) (Kd.bZ ho0) hb); replace jg := ak (Kd.bH (ur jg.out) (Kd.bZ ho0) hb); replace dU := rb dU hb; replace fA := ak (Kd.bH (ur fA.out) (Kd.bZ ho0) hb); replace ig := ak (Kd.bH (ur ig.out) (Kd.bZ ho0) hb); replace gZ := kb gZ hb; replace HB := bz HB hb; clear hb; (try clear ho0); obtain ⟨alF, alG, agm⟩ := Kd.aI kQ.out; subst agm)
         replace dO := ak (Kd.fV dO.out)
         replace jg := ak (Kd.fV jg.out)
         replace dU := ak (Kd.fV dU.out)
         replace fA := ak (Kd.fV fA.out)
         replace ig := ak (Kd.fV ig.out)
         replace kQ := ak (Kd.fV kQ.out)
         replace gZ := ak (iQ gZ.out)
         replace HB := ak (fQ HB.out)
         obtain ⟨atZ, anr, at1⟩ := Kd.aI dO.out
         (first | subst at1 | (injection at1 with oM uz oN; have uD := oM.symm; have uF := oN.symm; clear oM uz oN; subst uD; subst uF))
         have q64 : ((lS.length : Int) : Int) ≤ ((kP.length : Int) : Int) := of_decide_eq_true (by assumption)
         obtain ⟨aG1, aj6, _, at6, _⟩ := info_parts info9
         have aaj : kP.length ≤ anr := (Kd.ay dO.out).2.1
         have at7 : Kd.C Kd.string _ atZ kP.length kP := (Kd.ay dO.out).2.2
         have ant := ET (P := Tryz.prog) 23 9 .i64 Tryz.underlying23 aj6 atZ kP.length anr (lS.length : Int) (of_decide_eq_true (by assumption)) q64 aaj
         have anu := Kd.EU (m := ((lS.length : Int) : Int).toNat) at7 (by omega)
         have anv : Nr.length = ((lS.length : Int) : Int).toNat := (by rw [DU.out, List.length_take]; omega)
         rw [← DU.out] at anu
         rw [← anv] at ant
         have vZ := ak anu
         have Ie := ak (show Nr.length ≤ anr from by omega)
         clear anu at7 aaj aj6 at6
         have aG2 := ak anv
         clear anv
         have aG3 := ak (show ((lS.length : Int) : Int).toNat ≤ kP.length from by omega)
         replace q64 := eq_true q64
         have Fe := zi (lS.length : Int)
         have Fg := zj (lS.length : Int) kP.length
         obtain ⟨DV, VX, uP⟩ := Kd.iU (Kd.ay dO.out).2.2 (lS.length : Int) Fe Fg
         cases VX
         (try simp only [Go.IntWalk.toNatUp] at uP)
         replace Fe := eq_true Fe
         replace Fg := eq_true Fg
         refine ro [12] [0, 1, 2, 3, 4, 5, 6, 7, 8, 9, 10, 11, 12, 13, 14, 15, 16, 17, 18, 19, 20, 21, 22, 23, 24, 25, 26, 27, 28, 29, 30, 31, 32, 33, 34, 35, 36] (fun w' => w'.cell? (DV.add lS.length) = some (.string (mX ByteArray.empty kP (lS.length : Int)))) (uP) ?_
         generalize QC.drew = w62 at dO jg dU fA ig kQ gZ HB vZ uP ⊢
         repeat (first | (refine lk (v := ?_) (a' := ?_) (gk.trans rfl) rfl rfl ?_ ?_ ?_; rotate_left; (focus (intro w' s0; go_simp; with_reducible rfl)); rotate_left; (focus (simp only [Act.put, yT, yU, l_c, iK, jI]; rfl))) | (refine lf (a' := ?_) (gk.trans rfl) rfl rfl ?_ ?_; rotate_left; (focus (simp only [Act.put, yT, yU, l_c, iK, jI]; rfl))))
         refine rA Tryz.func22 (fD.calls (cu (by repeat (first | (with_reducible exact vZ.out) | (with_reducible refine Kd.ni ?_ _) | (with_reducible refine Kd.nC ?_ _) | (with_reducible refine Kd.pY ?_) | exact vZ.out))) Ie.out (cu ((Kd.ay kQ.out).2.2)) ((Kd.ay kQ.out).2.1) A37.out) ?_
         intro nd
         refine ⟨uP, ?_⟩
         repeat (first | (refine lk (v := ?_) (a' := ?_) (gk.trans rfl) rfl rfl ?_ ?_ ?_; rotate_left; (focus (intro w' s0; go_simp; with_reducible rfl)); rotate_left; (focus (simp only [Act.put, yT, yU, l_c, iK, jI]; rfl))) | (refine lf (a' := ?_) (gk.trans rfl) rfl rfl ?_ ?_; rotate_left; (focus (simp only [Act.put, yT, yU, l_c, iK, jI]; rfl))))
         refine on ?_
         try go_wp2
         go_ret
         exact ⟨er, bb⟩
       ·
        obtain rfl := s1 H
        have z65 := kK gZ.out
        try go_wp2_with (refine gV Tryz.func39 (fG.calls (cu ((Kd.ay dU.out).2.2)) ((Kd.ay dU.out).2.1) A32.out) ?_; rintro VW w66 ⟨ho0, hb⟩; have kQ := ak (Kd.aC (Kd.dR (Kd.dR (Kd.dR ho0 (Kd.jh (ur dO.out))) (Kd.jh (ur jg.out))) (Kd.jh (ur fA.out))) (aj bb)); replace dO := ak (Kd.bH (ur dO.out) (Kd.bZ ho0) hb); replace jg := ak (Kd.bH (ur jg.out) (Kd.bZ ho0) hb); replace dU := rb dU hb; replace fA := ak (Kd.bH (ur fA.out) (Kd.bZ ho0) hb); replace ig := ak (Kd.bH (ur ig.out) (Kd.bZ ho0) hb); replace gZ := kb gZ hb; replace HB := bz HB hb; clear hb; (try clear ho0); obtain ⟨aG4, aG5, azz⟩ := Kd.aI kQ.out; subst azz)
        replace dO := ak (Kd.fV dO.out)
        replace jg := ak (Kd.fV jg.out)
        replace dU := ak (Kd.fV dU.out)
        replace fA := ak (Kd.fV fA.out)
        replace ig := ak (Kd.fV ig.out)
        replace kQ := ak (Kd.fV kQ.out)
        replace gZ := ak (iQ gZ.out)
        replace HB := ak (fQ HB.out)
        obtain ⟨aua, anw, aub⟩ := Kd.aI dO.out
        (first | subst aub | (injection aub with oM uz oN; have uD := oM.symm; have uF := oN.symm; clear oM uz oN; subst uD; subst uF))
        have q70 : ((lS.length : Int) : Int) ≤ ((kP.length : Int) : Int) := of_decide_eq_true (by assumption)
        obtain ⟨aG6, aj7, _, auc, _⟩ := info_parts info9
        have aak : kP.length ≤ anw := (Kd.ay dO.out).2.1
        have aud : Kd.C Kd.string _ aua kP.length kP := (Kd.ay dO.out).2.2
        have anx := ET (P := Tryz.prog) 23 9 .i64 Tryz.underlying23 aj7 aua kP.length anw (lS.length : Int) (of_decide_eq_true (by assumption)) q70 aak
        have anz := Kd.EU (m := ((lS.length : Int) : Int).toNat) aud (by omega)
        have anA : Nr.length = ((lS.length : Int) : Int).toNat := (by rw [DU.out, List.length_take]; omega)
        rw [← DU.out] at anz
        rw [← anA] at anx
        have vZ := ak anz
        have Ie := ak (show Nr.length ≤ anw from by omega)
        clear anz aud aak aj7 auc
        have aG7 := ak anA
        clear anA
        have aG8 := ak (show ((lS.length : Int) : Int).toNat ≤ kP.length from by omega)
        replace q70 := eq_true q70
        refine ro [12] [0, 1, 2, 3, 4, 5, 6, 7, 8, 9, 10, 11, 12, 13, 14, 15, 16, 17, 18, 19, 20, 21, 22, 23, 24, 25, 26, 27, 28, 29, 30, 31, 32, 33, 34, 35, 36] (fun w' => True) trivial ?_
        generalize w66.drew = w68 at dO jg dU fA ig kQ gZ HB vZ ⊢
        repeat (first | (refine lk (v := ?_) (a' := ?_) (gk.trans rfl) rfl rfl ?_ ?_ ?_; rotate_left; (focus (intro w' _; go_simp; with_reducible rfl)); rotate_left; (focus (simp only [Act.put, yT, yU, l_c, iK, jI]; rfl))) | (refine lf (a' := ?_) (gk.trans rfl) rfl rfl ?_ ?_; rotate_left; (focus (simp only [Act.put, yT, yU, l_c, iK, jI]; rfl))))
        refine rA Tryz.func22 (fD.calls (cu (by repeat (first | (with_reducible exact vZ.out) | (with_reducible refine Kd.ni ?_ _) | (with_reducible refine Kd.nC ?_ _) | (with_reducible refine Kd.pY ?_) | exact vZ.out))) Ie.out (cu ((Kd.ay kQ.out).2.2)) ((Kd.ay kQ.out).2.1) A37.out) ?_
        intro nd
        refine ⟨sx, ?_⟩
        repeat (first | (refine lk (v := ?_) (a' := ?_) (gk.trans rfl) rfl rfl ?_ ?_ ?_; rotate_left; (focus (intro w' _; go_simp; with_reducible rfl)); rotate_left; (focus (simp only [Act.put, yT, yU, l_c, iK, jI]; rfl))) | (refine lf (a' := ?_) (gk.trans rfl) rfl rfl ?_ ?_; rotate_left; (focus (simp only [Act.put, yT, yU, l_c, iK, jI]; rfl))))
        refine on ?_
        try go_wp2
        go_ret
        exact ⟨er, bb⟩
      ·
       have OY : decide ((lS.length : Int) < (kP.length : Int)) = false := decide_eq_false c34
       have OZ : decide (lS.length < kP.length) = false := decide_eq_false (fun h => c34 (Int.ofNat_lt.mpr h))
       clear c34
       obtain rfl := s1 H
       have z71 := kK gZ.out
       try go_wp2_with (refine gV Tryz.func39 (fG.calls (cu ((Kd.ay dU.out).2.2)) ((Kd.ay dU.out).2.1) A32.out) ?_; rintro VW w72 ⟨ho0, hb⟩; have kQ := ak (Kd.aC (Kd.dR (Kd.dR (Kd.dR ho0 (Kd.jh (ur dO.out))) (Kd.jh (ur jg.out))) (Kd.jh (ur fA.out))) (aj bb)); replace dO := ak (Kd.bH (ur dO.out) (Kd.bZ ho0) hb); replace jg := ak (Kd.bH (ur jg.out) (Kd.bZ ho0) hb); replace dU := rb dU hb; replace fA := ak (Kd.bH (ur fA.out) (Kd.bZ ho0) hb); replace ig := ak (Kd.bH (ur ig.out) (Kd.bZ ho0) hb); replace gZ := kb gZ hb; replace HB := bz HB hb; clear hb; (try clear ho0); obtain ⟨aG9, aG_, azA⟩ := Kd.aI kQ.out; subst azA)
       replace dO := ak (Kd.fV dO.out)
       replace jg := ak (Kd.fV jg.out)
       replace dU := ak (Kd.fV dU.out)
       replace fA := ak (Kd.fV fA.out)
       replace ig := ak (Kd.fV ig.out)
       replace kQ := ak (Kd.fV kQ.out)
       replace gZ := ak (iQ gZ.out)
       replace HB := ak (fQ HB.out)
       obtain ⟨aHa, aHb, aue⟩ := Kd.aI dO.out
       (first | subst aue | (injection aue with oM uz oN; have uD := oM.symm; have uF := oN.symm; clear oM uz oN; subst uD; subst uF))
       refine ro [] [0, 1, 2, 3, 4, 5, 6, 7, 8, 9, 10, 11, 12, 13, 14, 15, 16, 17, 18, 19, 20, 21, 22, 23, 24, 25, 26, 27, 28, 29, 30, 31, 32, 33, 34, 35, 36] (fun w' => True) trivial ?_
       generalize w72.drew = w74 at dO jg dU fA ig kQ gZ HB ⊢
       repeat (first | (refine lk (v := ?_) (a' := ?_) (gk.trans rfl) rfl rfl ?_ ?_ ?_; rotate_left; (focus (intro w' _; go_simp; with_reducible rfl)); rotate_left; (focus (simp only [Act.put, yT, yU, l_c, iK, jI]; rfl))) | (refine lf (a' := ?_) (gk.trans rfl) rfl rfl ?_ ?_; rotate_left; (focus (simp only [Act.put, yT, yU, l_c, iK, jI]; rfl))))
       refine on ?_
       try go_wp2
       go_ret
       exact ⟨er, bb⟩
     ·
      obtain rfl := s1 H
      have z76 := kK gZ.out
      try go_wp2_with (refine gV Tryz.func39 (fG.calls (cu ((Kd.ay dU.out).2.2)) ((Kd.ay dU.out).2.1) A32.out) ?_; rintro VW w77 ⟨ho0, hb⟩; have kQ := ak (Kd.aC (Kd.dR (Kd.dR (Kd.dR ho0 (Kd.jh (ur dO.out))) (Kd.jh (ur jg.out))) (Kd.jh (ur fA.out))) (aj bb)); replace dO := ak (Kd.bH (ur dO.out) (Kd.bZ ho0) hb); replace jg := ak (Kd.bH (ur jg.out) (Kd.bZ ho0) hb); replace dU := rb dU hb; replace fA := ak (Kd.bH (ur fA.out) (Kd.bZ ho0) hb); replace ig := ak (Kd.bH (ur ig.out) (Kd.bZ ho0) hb); replace gZ := kb gZ hb; replace HB := bz HB hb; clear hb; (try clear ho0); obtain ⟨aHc, aHd, azB⟩ := Kd.aI kQ.out; subst azB)
      replace dO := ak (Kd.fV dO.out)
      replace jg := ak (Kd.fV jg.out)
      replace dU := ak (Kd.fV dU.out)
      replace fA := ak (Kd.fV fA.out)
      replace ig := ak (Kd.fV ig.out)
      replace kQ := ak (Kd.fV kQ.out)
      replace gZ := ak (iQ gZ.out)
      replace HB := ak (fQ HB.out)
      refine ro [] [0, 1, 2, 3, 4, 5, 6, 7, 8, 9, 10, 11, 12, 13, 14, 15, 16, 17, 18, 19, 20, 21, 22, 23, 24, 25, 26, 27, 28, 29, 30, 31, 32, 33, 34, 35, 36] (fun w' => True) trivial ?_
      generalize w77.drew = w79 at dO jg dU fA ig kQ gZ HB ⊢
      repeat (first | (refine lk (v := ?_) (a' := ?_) (gk.trans rfl) rfl rfl ?_ ?_ ?_; rotate_left; (focus (intro w' _; go_simp; with_reducible rfl)); rotate_left; (focus (simp only [Act.put, yT, yU, l_c, iK, jI]; rfl))) | (refine lf (a' := ?_) (gk.trans rfl) rfl rfl ?_ ?_; rotate_left; (focus (simp only [Act.put, yT, yU, l_c, iK, jI]; rfl))))
      refine on ?_
      try go_wp2
      go_ret
      exact ⟨er, bb⟩
/-- THE ONE PURE STATEMENT of laws_FnPartLines: yours. -/
def dD.Pure : Prop := ∀ (l0 : List Int), l0.length ≤ maxLen → l0.length * 1 ≤ 140737488351232 → (∀ x ∈ l0, (Lit.int .u8 x).wf = true) → ∃ k, dD.f k l0 = some true
theorem dD.walk (P : dD.Pure) (a0 : Option Addr) (len0 cap0 : Nat) (z0 : List Int) (w : World) (w0 : (a0 = none ∧ len0 = 0 ∧ cap0 = 0 ∧ z0 = []) ∨ ∃ x, a0 = some x ∧ len0 ≤ cap0 ∧ cap0 ≤ maxLen ∧ z0.length = cap0 ∧ (∀ i, i < z0.length → w.cell? (x.add i) = some (.int .u8 (z0.getD i 0))) ∧ ∀ n ∈ z0, (Lit.int .u8 n).wf = true) (y0 : len0 * 1 ≤ 140737488351232) (CB : MaxOk w) :
  Calls Tryz.prog 9 #[.slice a0 len0 cap0] w fun e w' => e = .returned (.bool true) ∧ Below w.heap.size w w' := by
 obtain ⟨l0, rfl, hr0, hm0, hw0, hc0⟩ := lF.anB w0
 obtain ⟨k, h⟩ := P l0 hm0 y0 hw0
 refine (dD.calls (Kd.H7 (d := (0 : Int)) (h1 := fun _ => rfl) hr0) hc0 CB h).mono ?_
 rintro e w' ⟨rfl, hd⟩
 exact ⟨rfl, hd⟩
end Go.Proofs.YtncdadcmghglkaaGreatDoor.PFnPartLines
