/- Printed walks; conditions: those in each statement. -/
import Derived.Test.YtncdadcmghglkaaGreatDoorVFnPartValidQt
import Derived.Test.YtncdadcmghglkaaGreatDoorVFnPartValidYt
import Derived.Test.YtncdadcmghglkaaGreatDoorPFnPartValidx2
import Derived.Test.YtncdadcmghglkaaGreatDoorPFnPartValidx0
import Derived.Test.YtncdadcmghglkaaGreatDoorPFnPartValidx10
import Derived.Test.YtncdadcmghglkaaGreatDoorPFnPartValidx30
-- short
-- dense
-- sq
-- sq2
namespace Go.Proofs.YtncdadcmghglkaaGreatDoor.PFnPartValid
open Go.RowKit Go.Proofs.YtncdadcmghglkaaGreatDoor.X Go.Proofs.YtncdadcmghglkaaGreatDoorW.bK Go.Proofs.YtncdadcmghglkaaGreatDoorW.gY Go.Proofs.YtncdadcmghglkaaGreatDoorW.iU
attribute [local go_sem] lu lC ng ni jO jP lD lF   -- for this text's walks alone
set_option linter.unusedVariables false
set_option maxHeartbeats 8000000
set_option maxRecDepth 100000
set_option linter.unusedSimpArgs false
def dJ.j0 : Nat → Bool → Bool → List (gK) → List ByteArray → List (mV) → Option (Bool)
 | 0, _, _, _, _, _ => none
 | k + 1, x4, x26, Gx, D_, Ea => if x26 = true then ((l9.f k Gx D_ Ea).bind fun al6 => (some (x4 == al6))) else ((some (([] : List (gK)) : List (gK))).bind fun Uk => (if Uk.length + Gx.length < 4398046511104 then ((some (Uk ++ Gx : List (gK))).bind fun Ul => (if Ul.length < 4398046511104 then ((some (Ul ++ [(⟨(⟨#[88, 45, 78, 101, 119]⟩ : ByteArray), (⟨#[49]⟩ : ByteArray)⟩ : gK)] : List (gK))).bind fun kL => ((kF.f k kL D_ Ea).bind fun al7 => (if al7 = true then ((lM.f k kL D_ Ea).bind fun al8 => ((lM.f k Gx D_ Ea).bind fun al9 => (if al8 = al9 then ((jo.f k Gx D_ Ea kL D_ Ea).bind fun al_ => (some (!al_))) else (some false)))) else (some false)))) else (none))) else (none)))
def dJ.f (k : Nat) (l0 : List Int) : Option (Bool) := if (l0.length : Int) > 1048576 then (some true) else ((oq.f k l0).bind fun xE => ((kF.f k xE.1 xE.2.1 xE.2.2).bind fun Dn => ((l9.f k xE.1 xE.2.1 xE.2.2).bind fun Lu => (if (Dn != Lu) = true then (dJ.j0 k Dn true xE.1 xE.2.1 xE.2.2) else (if Dn = true then (dJ.j0 k Dn ((xE.1.length : Int) == 20) xE.1 xE.2.1 xE.2.2) else (dJ.j0 k Dn true xE.1 xE.2.1 xE.2.2))))))
def dJ.T9 : Bool × List (List Nat × List Nat) := (true, [([], []), ([0], [0]), ([1, 1], [1]), ([2], [2]), ([3, 2, 2], [2, 3]), ([2], [2]), ([5, 4, 2], [2, 5]), ([4, 6, 2], [2, 4, 6]), ([2, 7], [2, 7]), ([8, 6], [8]), ([9], [9]), ([9], [9]), ([10, 11, 9, 9], [9, 10, 11]), ([12, 9], [9, 12]), ([9, 13], [9, 13]), ([14, 12, 0, 1, 2, 3, 4, 5, 6, 7, 8, 9, 10, 11, 12, 13, 14], [14])])
def dJ.B9 : List Nat := [0, 1, 3, 7, 15, 7, 63, 127, 255, 511, 1023, 1023, 4095, 8191, 16383, 32767]
theorem dJ.aI8 : uG .any (opsOf Tryz.f14 9) = dJ.T9 := by kernel_rfl
theorem dJ.aDM : oH dJ.T9.2 dJ.B9 = true := by kernel_rfl
theorem dJ.calls {k c0 : Nat} {A0 : Option Addr} {l0 : List Int} {r : Bool} {w : World} (hr0 : Kd.C (Kd.int .u8) w A0 l0.length l0) (hc0 : l0.length ≤ c0) (CX : MaxOk w) (h : dJ.f k l0 = some r) :
  Calls Tryz.prog 14 #[.slice A0 l0.length c0] w fun e w' => e = .returned (.bool r) ∧ Below w.heap.size w w' := by
 have Et := Tryz.underlying28
 have DK := Tryz.underlying69
 have HR0 := ak hr0
 have zq := ak hc0
 clear hr0 hc0
 have HG := ak CX
 clear CX
 have HB := ak (Below.refl w.heap.size w)
 unfold dJ.f at h; have H := h
 clear h
 replace H := sp H
 rcases H with ⟨c2, H⟩ | ⟨c2, H⟩
 ·
  have o_ : decide (1048576 < (l0.length : Int)) = true := decide_eq_true c2
  have wu : decide (1048576 < l0.length) = true := decide_eq_true (by omega)
  clear c2
  obtain rfl := s1 H
  go_enter Tryz.func14, Tryz.ntmps14
  go_wp2
  go_ret
  exact ⟨er, ul HB.out⟩
 ·
  have o_ : decide (1048576 < (l0.length : Int)) = false := decide_eq_false c2
  have wu : decide (1048576 < l0.length) = false := decide_eq_false (by omega)
  clear c2
  replace H := bd H
  obtain ⟨⟨jK, kP, mP⟩, A3, H⟩ := H
  (try dsimp only at H)
  replace H := bd H; obtain ⟨Dn, A4, H⟩ := H
  have HC5 := ak H
  clear H
  go_enter Tryz.func14, Tryz.ntmps14
  go_upto_region 5 with (first | (refine gL 51 10 Tryz.func51 #[.slice A0 l0.length c0] ?_; (with_reducible refine (oq.calls (cu HR0.out) zq.out A3.out).mono ?_); rintro e w6 ⟨aDN, aDO, aDP, rfl, ho0, ho1, ho2, hb⟩; refine ⟨_, rfl, ?_⟩; have sV := ak (Kd.aG ho0 (aj (ul HB.out))); have sW := ak (Kd.aG ho1 (aj (ul HB.out))); have sZ := ak (Kd.aG ho2 (aj (ul HB.out))); replace HB := bs HB hb; clear hb; (try clear ho0); (try clear ho1); (try clear ho2)) | (refine gG 3 ?_; refine bY HB 3 #[.slice none 0 0, .slice none 0 0, .slice none 0 0] 28 ?_; intro lW w7 dH aBe hg hb; replace sV := rb sV hb; replace sW := rb sW hb; replace sZ := ak (Kd.rD (Kd.wB (ur sZ.out) lW (Nat.le_of_eq hg.symm)) hb); replace HB := bs HB hb; clear hb hg; obtain ⟨yH, xW, eo8⟩ := Kd.aX sV.out; subst eo8; have z9 := ku dH.out; obtain ⟨qI, qx, aoR⟩ := Kd.aX sW.out; subst aoR; obtain ⟨pq, oK, NQ⟩ := Kd.aX sZ.out; subst NQ) | (refine gB Tryz.func26 (kF.calls ?gJ ((Kd.au sV.out).2.1) ?Af ((Kd.au sW.out).2.1) ?Ag ((Kd.au sZ.out).2.1) ?rZ A4.out) ?_; (case gJ => refine (Kd.au (e := 69) (base := w.heap.size) (ok := fun k_ => True) (n := jK.length) (c := xW) ?_).2.2; exact (rh sV)); (case Af => refine (Kd.au (e := 9) (base := w.heap.size) (ok := fun k_ => True) (n := kP.length) (c := qx) ?_).2.2; exact (rh sW)); (case Ag => refine (Kd.au (e := 28) (base := w.heap.size) (ok := fun k_ => ((some k_ ≠ (.slice yH jK.length xW : Value).ownBlock ∧ some k_ ≠ (.slice qI kP.length qx : Value).ownBlock) ∧ k_ ≠ lW)) (n := mP.length) (c := oK) ?_).2.2; exact (ur (Kd.aY (Kd.jy (p := ⟨lW, 2, none⟩) (Kd.jy (p := ⟨lW, 1, none⟩) (Kd.jy (p := ⟨lW, 0, none⟩) (Kd.aY sZ.out (fun k_ hk => (⟨hk, hk.2⟩ : _ ∧ k_ ≠ lW))) (fun _ hk => hk.2) (.slice yH jK.length xW)) (fun _ hk => hk.2) (.slice qI kP.length qx)) (fun _ hk => hk.2) (.slice pq mP.length oK)) (fun _ h_ => h_.1)))); (case rZ => first | exact HG.out | exact MaxOk.below HG.out bb | (repeat (first | exact HG.out | apply MaxOk.drewN | apply MaxOk.drew))); intro w12 hb; replace sV := rg sV hb; replace sW := rg sW hb; replace sZ := ak (Kd.rD (ur (Kd.aY (Kd.jy (p := ⟨lW, 2, none⟩) (Kd.jy (p := ⟨lW, 1, none⟩) (Kd.jy (p := ⟨lW, 0, none⟩) (Kd.aY sZ.out (fun k_ hk => (⟨hk, hk.2⟩ : _ ∧ k_ ≠ lW))) (fun _ hk => hk.2) (.slice yH jK.length xW)) (fun _ hk => hk.2) (.slice qI kP.length qx)) (fun _ hk => hk.2) (.slice pq mP.length oK)) (fun _ h_ => h_.1))) hb); replace dH := kp dH #[.slice yH jK.length xW, .slice qI kP.length qx, .slice pq mP.length oK] hb; replace HB := bz HB hb; clear hb))
  (try simp only [Act.put, sK, sN, l_c])
  go_cut [26] (fun v26 wc => ∃ (kq : Nat) (agt : Bool), v26 = .bool agt ∧ ah (dJ.j0 kq Dn agt jK kP mP = some r) ∧ ah (kq ≤ k) ∧ ah (Kd.R pU 69 wc w.heap.size (fun _ => True) (.slice yH jK.length xW) jK) ∧ ah (Kd.R Kd.string 9 wc w.heap.size (fun _ => True) (.slice qI kP.length qx) kP) ∧ ah (Kd.R k28 28 wc w.heap.size (fun k_ => some k_ ≠ ((.slice yH jK.length xW) : Value).ownBlock ∧ some k_ ≠ ((.slice qI kP.length qx) : Value).ownBlock ∧ k_ ≠ lW) (.slice pq mP.length oK) mP) ∧ ah (wc.heap[lW]? = some (.cells #[(.slice yH jK.length xW), (.slice qI kP.length qx), (.slice pq mP.length oK)] 28 (0, 0))) ∧ ah (Below w.heap.size w wc))
  case first =>
   have H := HC5.out
   clear HC5
   replace H := bd H; obtain ⟨Lu, A13, H⟩ := H; replace H := sp H
   rcases H with ⟨c14, H⟩ | ⟨c14, H⟩
   ·
    have rQ : (Dn != Lu) = true := c14
    (try (have xO : decide (Dn = Lu) = false := by simpa using c14))
    (try (have aeF : (Dn == Lu) = false := by simpa using c14))
    (try (have aqJ : ¬ (Dn = Lu) := by simpa using c14))
    clear c14
    (first | rw [rQ] | (simp only [eu, f_]; rw [rQ]) | skip)
    have H' := ak H; clear H
    have OH := ku dH.out
    go_wp2_with (refine gB Tryz.func30 (l9.calls (cu ((Kd.au sV.out).2.2)) ((Kd.au sV.out).2.1) (cu ((Kd.au sW.out).2.2)) ((Kd.au sW.out).2.1) (cu ((Kd.au sZ.out).2.2)) ((Kd.au sZ.out).2.1) A13.out) ?_; intro w16 hb; replace sV := rb sV hb; replace sW := rb sW hb; replace sZ := rb sZ hb; replace dH := kb dH hb; replace HB := bz HB hb; clear hb)
    go_meet
    case rel => exact ⟨_, _, rs, H', ⟨JF⟩, ⟨ur sV.out⟩, ⟨ur sW.out⟩, ⟨ur (Kd.aY sZ.out (fun _ hk => ⟨hk.1.1, ⟨hk.1.2, hk.2⟩⟩))⟩, ⟨ub dH.out⟩, ⟨bb⟩⟩
   ·
    have rQ : (Dn != Lu) = false := by simpa using c14
    (try (have xO : decide (Dn = Lu) = true := by simpa using c14))
    (try (have aeF : (Dn == Lu) = true := by simpa using c14))
    clear c14
    (first | rw [rQ] | (simp only [eu, f_]; rw [rQ]) | skip)
    replace H := sb H
    rcases H with ⟨rfl, H⟩ | ⟨rfl, H⟩
    ·
     have H' := ak H; clear H
     have z18 := ku dH.out
     go_wp2_with (refine gB Tryz.func30 (l9.calls (cu ((Kd.au sV.out).2.2)) ((Kd.au sV.out).2.1) (cu ((Kd.au sW.out).2.2)) ((Kd.au sW.out).2.1) (cu ((Kd.au sZ.out).2.2)) ((Kd.au sZ.out).2.1) A13.out) ?_; intro YM hb; replace sV := rb sV hb; replace sW := rb sW hb; replace sZ := rb sZ hb; replace dH := kb dH hb; replace HB := bz HB hb; clear hb; have z20 := ku dH.out)
     go_meet
     case rel => exact ⟨_, _, rs, H', ⟨JF⟩, ⟨ur sV.out⟩, ⟨ur sW.out⟩, ⟨ur (Kd.aY sZ.out (fun _ hk => ⟨hk.1.1, ⟨hk.1.2, hk.2⟩⟩))⟩, ⟨ub dH.out⟩, ⟨bb⟩⟩
    ·
     have H' := ak H; clear H
     have z21 := ku dH.out
     go_wp2_with (refine gB Tryz.func30 (l9.calls (cu ((Kd.au sV.out).2.2)) ((Kd.au sV.out).2.1) (cu ((Kd.au sW.out).2.2)) ((Kd.au sW.out).2.1) (cu ((Kd.au sZ.out).2.2)) ((Kd.au sZ.out).2.1) A13.out) ?_; intro Y8 hb; replace sV := rb sV hb; replace sW := rb sW hb; replace sZ := rb sZ hb; replace dH := kb dH hb; replace HB := bz HB hb; clear hb)
     go_meet
     case rel => exact ⟨_, _, rs, H', ⟨JF⟩, ⟨ur sV.out⟩, ⟨ur sW.out⟩, ⟨ur (Kd.aY sZ.out (fun _ hk => ⟨hk.1.1, ⟨hk.1.2, hk.2⟩⟩))⟩, ⟨ub dH.out⟩, ⟨bb⟩⟩
  case rest =>
   clear HC5
   try clear c2
   try clear o_
   try clear wu
   obtain ⟨kq, agt, rfl, HA, HJ4, aT, aU, aV, dH, HB⟩ := hcut
   cases kq with
   | zero => exact zz HA.out
   | succ kj4 =>
    obtain ⟨H⟩ := HA
    simp only [dJ.j0] at H
    replace H := sb H
    rcases H with ⟨rfl, H⟩ | ⟨rfl, H⟩
    ·
     replace H := bd H; obtain ⟨al6, X3, H⟩ := H
     obtain rfl := s1 H
     have z25 := ku dH.out
     go_wp2_with (refine gB Tryz.func30 (l9.calls (cu ((Kd.au aT.out).2.2)) ((Kd.au aT.out).2.1) (cu ((Kd.au aU.out).2.2)) ((Kd.au aU.out).2.1) (cu ((Kd.au aV.out).2.2)) ((Kd.au aV.out).2.1) X3.out) ?_; intro w26 hb; replace aT := rb aT hb; replace aU := rb aU hb; replace aV := rb aV hb; replace dH := kb dH hb; replace HB := bz HB hb; clear hb)
     go_ret
     exact ⟨er, bb⟩
    ·
     replace H := ny H
     obtain ⟨Uk, ZG, H⟩ := H
     replace H := nl H; obtain ⟨QF, H⟩ := H
     replace H := ny H
     obtain ⟨Ul, ZH, H⟩ := H
     replace H := nl H; obtain ⟨X9, H⟩ := H
     replace H := ny H
     obtain ⟨kL, ZI, H⟩ := H
     replace H := bd H; obtain ⟨al7, A29, H⟩ := H; replace H := sb H
     rcases H with ⟨rfl, H⟩ | ⟨rfl, H⟩
     ·
      replace H := bd H; obtain ⟨al8, A31, H⟩ := H; replace H := bd H; obtain ⟨al9, A32, H⟩ := H; replace H := sq H
      rcases H with ⟨OW, XA, H⟩ | ⟨c33, OW, XA, H⟩
      ·
       replace H := bd H; obtain ⟨al_, A34, H⟩ := H
       obtain rfl := s1 H
       have z35 := ku dH.out
       try go_wp2_with (first | (refine gG 5 ?_; refine bY HB 5 #[.slice none 0 0, .slice none 0 0, .slice none 0 0] 28 ?_; intro eP w36 eY agu hg hb; have Ai := Au dH hg; have Aj := Aw dH hg; replace aT := rb aT hb; replace aU := rb aU hb; replace aV := ak (Kd.rD (Kd.wB (ur aV.out) eP (Nat.le_of_eq hg.symm)) hb); replace dH := kb dH hb; replace HB := bz HB hb; clear hb hg; have alb := Aj.out; have alc := Ai.out; have z38 := ku eY.out) | (refine gG 32 ?_; refine F8 32 pU 69 ZG ?_; intro X_ w39 ai7 hb; have wO := ak (Kd.aG (Kd.fK ai7 (Kd.jH (rh aT))) (aj bb)); replace aT := ak (Kd.fA (rh aT) (Kd.eH ai7) hb); replace aU := rg aU hb; replace aV := ak (Kd.fA (ur (Kd.aY (Kd.jy (p := ⟨eP, 2, none⟩) (Kd.jy (p := ⟨eP, 1, none⟩) (Kd.jy (p := ⟨eP, 0, none⟩) (Kd.aY aV.out (fun k_ hk => (⟨hk, hk.2⟩ : _ ∧ k_ ≠ eP))) (fun _ hk => hk.2) (.slice yH jK.length xW)) (fun _ hk => hk.2) (.slice qI kP.length qx)) (fun _ hk => hk.2) (.slice pq mP.length oK)) (fun _ h_ => h_.1))) (Kd.eH ai7) hb); replace dH := kp dH #[.slice yH jK.length xW, .slice qI kP.length qx, .slice pq mP.length oK] hb; replace eY := kp eY #[.slice yH jK.length xW, .slice qI kP.length qx, .slice pq mP.length oK] hb; replace HB := bz HB hb; clear hb ai7; have ajD := ku dH.out) | ((with_reducible refine dN (b := .append) (xs := #[.tmp 32, .tmp 34]) rfl ?_); (try (refine jJ (by rfl) ?_; dsimp only)); at_builtin; refine Kd.nP pU (w0 := w) w.heap.size rfl (.tmp 32) (.tmp 34) 25 69 (.agg #[(.string ⟨#[]⟩), (.string ⟨#[]⟩)]) 32 rfl Tryz.underlying25 xB rfl (by decide) (by omega) X_ Uk jK _ _ _ (fun k_ => some k_ ≠ (.slice yH jK.length xW : Value).ownBlock) (fun _ => False) rfl rfl ?aO ?aR (fun _ _ h => h) (fun _ h => h.elim) ?aF ?aB ?aS ?aL ?_; (case aR => repeat (first | exact (Kd.au aT.out).2.2 | (with_reducible refine Kd.pV ?_ _) | (with_reducible refine Kd.pW ?_ _) | (with_reducible refine Kd.sU ?_))); (case aB => exact bb); (case aF => exact (fun k_ hk => Kd.fresh' (Kd.jH (ur aT.out)) k_ hk)); (case aO => exact (ur (Kd.aY wO.out (fun _ hk => hk.2)))); (case aS => exact (aj bb)); (case aL => have := QF.out; omega); intro Ya w42 ho hb hg hat; rw [← ZH.out] at ho; have wP := ak (ho); replace aT := ak (Kd.qo (ok := (fun _ => True)) (ur aT.out) hg hat); replace aU := ak (Kd.nZ (ur aU.out) (Kd.jM (ur wO.out)) (by decide) hg); replace aV := ak (Kd.qo (ok := (fun k_ => some k_ ≠ (.slice yH jK.length xW : Value).ownBlock ∧ some k_ ≠ (.slice qI kP.length qx : Value).ownBlock ∧ k_ ≠ lW ∧ k_ ≠ eP)) (ur (Kd.aY aV.out (fun _ hk => ⟨⟨hk.1.1.1, ⟨hk.1.1.2.1, ⟨hk.1.1.2.2, hk.1.2⟩⟩⟩, hk.2⟩))) hg hat); replace dH := ak (bM (g := lW) (o := .cells #[.slice yH jK.length xW, .slice qI kP.length qx, .slice pq mP.length oK] 28 (0, 0)) (ub dH.out) hg (Kd.nO wO.out dH.out (by decide))); replace eY := ak (bM (g := eP) (o := .cells #[.slice yH jK.length xW, .slice qI kP.length qx, .slice pq mP.length oK] 28 (0, 0)) (ub eY.out) hg (Kd.nO wO.out eY.out (by decide))); replace HB := ak (hb); clear ho hb hg hat wO) | ((with_reducible refine dN (b := .append) (xs := #[.tmp 35, .tmp 37]) rfl ?_); (try (refine jJ (by rfl) ?_; dsimp only)); at_builtin; refine Kd.oP pU (w0 := w) w.heap.size rfl (.tmp 35) (.tmp 37) 25 69 (.agg #[(.string ⟨#[]⟩), (.string ⟨#[]⟩)]) 32 rfl Tryz.underlying25 xB rfl (by decide) (by omega) Ya Ul (⟨(⟨#[88, 45, 78, 101, 119]⟩ : ByteArray), (⟨#[49]⟩ : ByteArray)⟩ : gK) [.string (⟨#[88, 45, 78, 101, 119]⟩ : ByteArray), .string (⟨#[49]⟩ : ByteArray)] (fun k_ => some k_ ≠ (.slice yH jK.length xW : Value).ownBlock) (fun _ => False) rfl rfl ?aP (fun _ hk => hk.elim) ?aF ?aO ?aB ?aS ?aL ?_; (case aP => exact uU _ _ _ (⟨(⟨#[88, 45, 78, 101, 119]⟩ : ByteArray), (⟨#[49]⟩ : ByteArray)⟩ : gK)); (case aB => exact bb); (case aF => exact (fun k_ hk => Kd.fresh' (Kd.jH (ur aT.out)) k_ hk)); (case aO => exact (ur wP.out)); (case aS => exact (aj bb)); (case aL => have := X9.out; omega); intro ama w43 ho hb hg hat; rw [← ZI.out] at ho; have jw := ak (ho); replace aT := ak (Kd.qo (ok := (fun _ => True)) (ur aT.out) hg hat); replace aU := ak (Kd.nZ (ur aU.out) (Kd.jM (ur wP.out)) (by decide) hg); replace aV := ak (Kd.qo (ok := (fun k_ => some k_ ≠ (.slice yH jK.length xW : Value).ownBlock ∧ some k_ ≠ (.slice qI kP.length qx : Value).ownBlock ∧ k_ ≠ lW ∧ k_ ≠ eP)) (ur aV.out) hg hat); replace dH := ak (bM (g := lW) (o := .cells #[.slice yH jK.length xW, .slice qI kP.length qx, .slice pq mP.length oK] 28 (0, 0)) (ub dH.out) hg (Kd.nO wP.out dH.out (by decide))); replace eY := ak (bM (g := eP) (o := .cells #[.slice yH jK.length xW, .slice qI kP.length qx, .slice pq mP.length oK] 28 (0, 0)) (ub eY.out) hg (Kd.nO wP.out eY.out (by decide))); replace HB := ak (hb); clear ho hb hg hat wP; obtain ⟨BF, BG, Xp⟩ := Kd.aX jw.out; subst Xp; have z45 := ku eY.out))
       have xK : ah (Kd.R pU 69 (w43.setCell ⟨eP, 0, none⟩ (.slice BF kL.length BG)) w.heap.size (fun k_ => some k_ ≠ (.slice BF kL.length BG : Value).ownBlock) (.slice yH jK.length xW) jK) := ⟨ur (Kd.aY (Kd.jy (p := ⟨eP, 0, none⟩) (Kd.kE aT.out eY.out (by decide)) (fun _ hk => hk.2) (.slice BF kL.length BG)) (fun _ hk => hk.1.2))⟩
       have xM : ah (Kd.R Kd.string 9 (w43.setCell ⟨eP, 0, none⟩ (.slice BF kL.length BG)) w.heap.size (fun _ => True) (.slice qI kP.length qx) kP) := ⟨ur (Kd.aY (Kd.jy (p := ⟨eP, 0, none⟩) (Kd.kE aU.out eY.out (by decide)) (fun _ hk => hk.2) (.slice BF kL.length BG)) (fun _ hk => trivial))⟩
       have yC : ah (Kd.R k28 28 (w43.setCell ⟨eP, 0, none⟩ (.slice BF kL.length BG)) w.heap.size (fun k_ => some k_ ≠ (.slice yH jK.length xW : Value).ownBlock ∧ some k_ ≠ (.slice qI kP.length qx : Value).ownBlock ∧ some k_ ≠ (.slice BF kL.length BG : Value).ownBlock ∧ k_ ≠ lW ∧ k_ ≠ eP) (.slice pq mP.length oK) mP) := ⟨ur (Kd.aY (Kd.jy (p := ⟨eP, 0, none⟩) (Kd.aY aV.out (fun k_ hk => (⟨hk, hk.1.2.2.2⟩ : _ ∧ k_ ≠ eP))) (fun _ hk => hk.2) (.slice BF kL.length BG)) (fun _ hk => ⟨hk.1.1.1, ⟨hk.1.1.2.1, ⟨hk.1.2, ⟨hk.1.1.2.2.1, hk.1.1.2.2.2⟩⟩⟩⟩))⟩
       have Ad : ah (Kd.R pU 69 (w43.setCell ⟨eP, 0, none⟩ (.slice BF kL.length BG)) w.heap.size (fun k_ => some k_ ≠ (.slice yH jK.length xW : Value).ownBlock) (.slice BF kL.length BG) kL) := ⟨ur (Kd.aY (Kd.jy (p := ⟨eP, 0, none⟩) (Kd.kE jw.out eY.out (by decide)) (fun _ hk => hk.2) (.slice BF kL.length BG)) (fun _ hk => hk.1))⟩
       have C9 : ah ((w43.setCell ⟨eP, 0, none⟩ (.slice BF kL.length BG)).heap[lW]? = some (.cells #[.slice yH jK.length xW, .slice qI kP.length qx, .slice pq mP.length oK] 28 (0, 0))) := ⟨bq⟩
       have D6 : ah ((w43.setCell ⟨eP, 0, none⟩ (.slice BF kL.length BG)).heap[eP]? = some (.cells #[.slice BF kL.length BG, .slice qI kP.length qx, .slice pq mP.length oK] 28 (0, 0))) := ⟨bq⟩
       have Fv : ah (Below w.heap.size w (w43.setCell ⟨eP, 0, none⟩ (.slice BF kL.length BG))) := ⟨bb⟩
       try clear aT
       try clear aU
       try clear aV
       try clear jw
       try clear dH
       try clear eY
       try clear HB
       generalize (w43.setCell ⟨eP, 0, none⟩ (.slice BF kL.length BG)) = w46 at xK xM yC Ad C9 D6 Fv ⊢
       have aT := xK
       have aU := xM
       have aV := yC
       have jw := Ad
       have dH := C9
       have eY := D6
       have HB := Fv
       clear xK xM yC Ad C9 D6 Fv
       replace aT := ak (Kd.jX aT.out)
       replace aU := ak (Kd.jX aU.out)
       replace aV := ak (Kd.jX aV.out)
       replace jw := ak (Kd.jX jw.out)
       replace dH := ak (bH dH.out)
       replace eY := ak (bH eY.out)
       replace HB := ak (iy HB.out)
       refine ro [1, 4, 6, 12] [0, 1, 2, 3, 5, 4, 6, 7, 8, 9, 10, 11, 12, 13, 14, 15] (fun w' => w'.cell? ⟨eP, 0, none⟩ = some (.slice BF kL.length BG) ∧ w'.cell? ⟨eP, 1, none⟩ = some (.slice qI kP.length qx) ∧ w'.cell? ⟨eP, 2, none⟩ = some (.slice pq mP.length oK) ∧ w'.cell? ⟨lW, 0, none⟩ = some (.slice yH jK.length xW) ∧ w'.cell? ⟨lW, 1, none⟩ = some (.slice qI kP.length qx) ∧ w'.cell? ⟨lW, 2, none⟩ = some (.slice pq mP.length oK)) ⟨(aA eY.out 0).trans rfl, (aA eY.out 1).trans rfl, (aA eY.out 2).trans rfl, (aA dH.out 0).trans rfl, (aA dH.out 1).trans rfl, (aA dH.out 2).trans rfl⟩ ?_
       generalize w46.drew = w47 at aT aU aV jw dH eY HB ⊢
       repeat refine yS ?_
       refine rB Tryz.func26 (kF.calls (cu ((Kd.au jw.out).2.2)) ((Kd.au jw.out).2.1) (cu ((Kd.au aU.out).2.2)) ((Kd.au aU.out).2.1) (cu ((Kd.au aV.out).2.2)) ((Kd.au aV.out).2.1) ?rZ A29.out) ?_
       (case rZ => first | exact HG.out | exact MaxOk.below HG.out bb | (repeat (first | exact HG.out | apply MaxOk.drewN | apply MaxOk.drew)))
       intro w48 hb
       replace aT := rb aT hb
       replace aU := rb aU hb
       replace aV := rb aV hb
       replace jw := rb jw hb
       replace dH := kb dH hb
       replace eY := kb eY hb
       replace HB := bz HB hb
       clear hb
       refine ⟨sx, ?_⟩
       repeat refine yS ?_
       refine rB Tryz.func34 (lM.calls (cu ((Kd.au jw.out).2.2)) ((Kd.au jw.out).2.1) (cu ((Kd.au aU.out).2.2)) ((Kd.au aU.out).2.1) (cu ((Kd.au aV.out).2.2)) ((Kd.au aV.out).2.1) ?rZ A31.out) ?_
       (case rZ => first | exact HG.out | exact MaxOk.below HG.out bb | (repeat (first | exact HG.out | apply MaxOk.drewN | apply MaxOk.drew)))
       intro w49 hb
       replace aT := rb aT hb
       replace aU := rb aU hb
       replace aV := rb aV hb
       replace jw := rb jw hb
       replace dH := kb dH hb
       replace eY := kb eY hb
       replace HB := bz HB hb
       clear hb
       refine ⟨sx, ?_⟩
       refine rB Tryz.func34 (lM.calls (cu ((Kd.au aT.out).2.2)) ((Kd.au aT.out).2.1) (cu ((Kd.au aU.out).2.2)) ((Kd.au aU.out).2.1) (cu ((Kd.au aV.out).2.2)) ((Kd.au aV.out).2.1) ?rZ A32.out) ?_
       (case rZ => first | exact HG.out | exact MaxOk.below HG.out bb | (repeat (first | exact HG.out | apply MaxOk.drewN | apply MaxOk.drew)))
       intro w50 hb
       replace aT := rb aT hb
       replace aU := rb aU hb
       replace aV := rb aV hb
       replace jw := rb jw hb
       replace dH := kb dH hb
       replace eY := kb eY hb
       replace HB := bz HB hb
       clear hb
       refine ⟨sx, ?_⟩
       repeat refine yS ?_
       refine rB Tryz.func21 (jo.calls (cu ((Kd.au aT.out).2.2)) ((Kd.au aT.out).2.1) (cu ((Kd.au aU.out).2.2)) ((Kd.au aU.out).2.1) (cu ((Kd.au aV.out).2.2)) ((Kd.au aV.out).2.1) (cu ((Kd.au jw.out).2.2)) ((Kd.au jw.out).2.1) (cu ((Kd.au aU.out).2.2)) ((Kd.au aU.out).2.1) (cu ((Kd.au aV.out).2.2)) ((Kd.au aV.out).2.1) A34.out) ?_
       intro w51 hb
       replace aT := rb aT hb
       replace aU := rb aU hb
       replace aV := rb aV hb
       replace jw := rb jw hb
       replace dH := kb dH hb
       replace eY := kb eY hb
       replace HB := bz HB hb
       clear hb
       refine ⟨sx, ?_⟩
       repeat refine yS ?_
       refine on ?_
       try go_wp2
       go_ret
       exact ⟨er, bb⟩
      ·
       obtain rfl := s1 H
       have z52 := ku dH.out
       try go_wp2_with (first | (refine gG 5 ?_; refine bY HB 5 #[.slice none 0 0, .slice none 0 0, .slice none 0 0] 28 ?_; intro eP w53 eY agu hg hb; have Ai := Au dH hg; have Aj := Aw dH hg; replace aT := rb aT hb; replace aU := rb aU hb; replace aV := ak (Kd.rD (Kd.wB (ur aV.out) eP (Nat.le_of_eq hg.symm)) hb); replace dH := kb dH hb; replace HB := bz HB hb; clear hb hg; have arF := Aj.out; have arG := Ai.out; have z55 := ku eY.out) | (refine gG 32 ?_; refine F8 32 pU 69 ZG ?_; intro X_ w56 CQ hb; have wO := ak (Kd.aG (Kd.fK CQ (Kd.jH (rh aT))) (aj bb)); replace aT := ak (Kd.fA (rh aT) (Kd.eH CQ) hb); replace aU := rg aU hb; replace aV := ak (Kd.fA (ur (Kd.aY (Kd.jy (p := ⟨eP, 2, none⟩) (Kd.jy (p := ⟨eP, 1, none⟩) (Kd.jy (p := ⟨eP, 0, none⟩) (Kd.aY aV.out (fun k_ hk => (⟨hk, hk.2⟩ : _ ∧ k_ ≠ eP))) (fun _ hk => hk.2) (.slice yH jK.length xW)) (fun _ hk => hk.2) (.slice qI kP.length qx)) (fun _ hk => hk.2) (.slice pq mP.length oK)) (fun _ h_ => h_.1))) (Kd.eH CQ) hb); replace dH := kp dH #[.slice yH jK.length xW, .slice qI kP.length qx, .slice pq mP.length oK] hb; replace eY := kp eY #[.slice yH jK.length xW, .slice qI kP.length qx, .slice pq mP.length oK] hb; replace HB := bz HB hb; clear hb CQ; have z58 := ku dH.out) | ((with_reducible refine dN (b := .append) (xs := #[.tmp 32, .tmp 34]) rfl ?_); (try (refine jJ (by rfl) ?_; dsimp only)); at_builtin; refine Kd.nP pU (w0 := w) w.heap.size rfl (.tmp 32) (.tmp 34) 25 69 (.agg #[(.string ⟨#[]⟩), (.string ⟨#[]⟩)]) 32 rfl Tryz.underlying25 xB rfl (by decide) (by omega) X_ Uk jK _ _ _ (fun k_ => some k_ ≠ (.slice yH jK.length xW : Value).ownBlock) (fun _ => False) rfl rfl ?aO ?aR (fun _ _ h => h) (fun _ h => h.elim) ?aF ?aB ?aS ?aL ?_; (case aR => repeat (first | exact (Kd.au aT.out).2.2 | (with_reducible refine Kd.pV ?_ _) | (with_reducible refine Kd.pW ?_ _) | (with_reducible refine Kd.sU ?_))); (case aB => exact bb); (case aF => exact (fun k_ hk => Kd.fresh' (Kd.jH (ur aT.out)) k_ hk)); (case aO => exact (ur (Kd.aY wO.out (fun _ hk => hk.2)))); (case aS => exact (aj bb)); (case aL => have := QF.out; omega); intro Ya w59 ho hb hg hat; rw [← ZH.out] at ho; have wP := ak (ho); replace aT := ak (Kd.qo (ok := (fun _ => True)) (ur aT.out) hg hat); replace aU := ak (Kd.nZ (ur aU.out) (Kd.jM (ur wO.out)) (by decide) hg); replace aV := ak (Kd.qo (ok := (fun k_ => some k_ ≠ (.slice yH jK.length xW : Value).ownBlock ∧ some k_ ≠ (.slice qI kP.length qx : Value).ownBlock ∧ k_ ≠ lW ∧ k_ ≠ eP)) (ur (Kd.aY aV.out (fun _ hk => ⟨⟨hk.1.1.1, ⟨hk.1.1.2.1, ⟨hk.1.1.2.2, hk.1.2⟩⟩⟩, hk.2⟩))) hg hat); replace dH := ak (bM (g := lW) (o := .cells #[.slice yH jK.length xW, .slice qI kP.length qx, .slice pq mP.length oK] 28 (0, 0)) (ub dH.out) hg (Kd.nO wO.out dH.out (by decide))); replace eY := ak (bM (g := eP) (o := .cells #[.slice yH jK.length xW, .slice qI kP.length qx, .slice pq mP.length oK] 28 (0, 0)) (ub eY.out) hg (Kd.nO wO.out eY.out (by decide))); replace HB := ak (hb); clear ho hb hg hat wO) | ((with_reducible refine dN (b := .append) (xs := #[.tmp 35, .tmp 37]) rfl ?_); (try (refine jJ (by rfl) ?_; dsimp only)); at_builtin; refine Kd.oP pU (w0 := w) w.heap.size rfl (.tmp 35) (.tmp 37) 25 69 (.agg #[(.string ⟨#[]⟩), (.string ⟨#[]⟩)]) 32 rfl Tryz.underlying25 xB rfl (by decide) (by omega) Ya Ul (⟨(⟨#[88, 45, 78, 101, 119]⟩ : ByteArray), (⟨#[49]⟩ : ByteArray)⟩ : gK) [.string (⟨#[88, 45, 78, 101, 119]⟩ : ByteArray), .string (⟨#[49]⟩ : ByteArray)] (fun k_ => some k_ ≠ (.slice yH jK.length xW : Value).ownBlock) (fun _ => False) rfl rfl ?aP (fun _ hk => hk.elim) ?aF ?aO ?aB ?aS ?aL ?_; (case aP => exact uU _ _ _ (⟨(⟨#[88, 45, 78, 101, 119]⟩ : ByteArray), (⟨#[49]⟩ : ByteArray)⟩ : gK)); (case aB => exact bb); (case aF => exact (fun k_ hk => Kd.fresh' (Kd.jH (ur aT.out)) k_ hk)); (case aO => exact (ur wP.out)); (case aS => exact (aj bb)); (case aL => have := X9.out; omega); intro ama J6 ho hb hg hat; rw [← ZI.out] at ho; have jw := ak (ho); replace aT := ak (Kd.qo (ok := (fun _ => True)) (ur aT.out) hg hat); replace aU := ak (Kd.nZ (ur aU.out) (Kd.jM (ur wP.out)) (by decide) hg); replace aV := ak (Kd.qo (ok := (fun k_ => some k_ ≠ (.slice yH jK.length xW : Value).ownBlock ∧ some k_ ≠ (.slice qI kP.length qx : Value).ownBlock ∧ k_ ≠ lW ∧ k_ ≠ eP)) (ur aV.out) hg hat); replace dH := ak (bM (g := lW) (o := .cells #[.slice yH jK.length xW, .slice qI kP.length qx, .slice pq mP.length oK] 28 (0, 0)) (ub dH.out) hg (Kd.nO wP.out dH.out (by decide))); replace eY := ak (bM (g := eP) (o := .cells #[.slice yH jK.length xW, .slice qI kP.length qx, .slice pq mP.length oK] 28 (0, 0)) (ub eY.out) hg (Kd.nO wP.out eY.out (by decide))); replace HB := ak (hb); clear ho hb hg hat wP; obtain ⟨D8, D9, ai0⟩ := Kd.aX jw.out; subst ai0; have z62 := ku eY.out))
       have xK : ah (Kd.R pU 69 (J6.setCell ⟨eP, 0, none⟩ (.slice D8 kL.length D9)) w.heap.size (fun k_ => some k_ ≠ (.slice D8 kL.length D9 : Value).ownBlock) (.slice yH jK.length xW) jK) := ⟨ur (Kd.aY (Kd.jy (p := ⟨eP, 0, none⟩) (Kd.kE aT.out eY.out (by decide)) (fun _ hk => hk.2) (.slice D8 kL.length D9)) (fun _ hk => hk.1.2))⟩
       have xM : ah (Kd.R Kd.string 9 (J6.setCell ⟨eP, 0, none⟩ (.slice D8 kL.length D9)) w.heap.size (fun _ => True) (.slice qI kP.length qx) kP) := ⟨ur (Kd.aY (Kd.jy (p := ⟨eP, 0, none⟩) (Kd.kE aU.out eY.out (by decide)) (fun _ hk => hk.2) (.slice D8 kL.length D9)) (fun _ hk => trivial))⟩
       have yC : ah (Kd.R k28 28 (J6.setCell ⟨eP, 0, none⟩ (.slice D8 kL.length D9)) w.heap.size (fun k_ => some k_ ≠ (.slice yH jK.length xW : Value).ownBlock ∧ some k_ ≠ (.slice qI kP.length qx : Value).ownBlock ∧ some k_ ≠ (.slice D8 kL.length D9 : Value).ownBlock ∧ k_ ≠ lW ∧ k_ ≠ eP) (.slice pq mP.length oK) mP) := ⟨ur (Kd.aY (Kd.jy (p := ⟨eP, 0, none⟩) (Kd.aY aV.out (fun k_ hk => (⟨hk, hk.1.2.2.2⟩ : _ ∧ k_ ≠ eP))) (fun _ hk => hk.2) (.slice D8 kL.length D9)) (fun _ hk => ⟨hk.1.1.1, ⟨hk.1.1.2.1, ⟨hk.1.2, ⟨hk.1.1.2.2.1, hk.1.1.2.2.2⟩⟩⟩⟩))⟩
       have Ad : ah (Kd.R pU 69 (J6.setCell ⟨eP, 0, none⟩ (.slice D8 kL.length D9)) w.heap.size (fun k_ => some k_ ≠ (.slice yH jK.length xW : Value).ownBlock) (.slice D8 kL.length D9) kL) := ⟨ur (Kd.aY (Kd.jy (p := ⟨eP, 0, none⟩) (Kd.kE jw.out eY.out (by decide)) (fun _ hk => hk.2) (.slice D8 kL.length D9)) (fun _ hk => hk.1))⟩
       have C9 : ah ((J6.setCell ⟨eP, 0, none⟩ (.slice D8 kL.length D9)).heap[lW]? = some (.cells #[.slice yH jK.length xW, .slice qI kP.length qx, .slice pq mP.length oK] 28 (0, 0))) := ⟨bq⟩
       have D6 : ah ((J6.setCell ⟨eP, 0, none⟩ (.slice D8 kL.length D9)).heap[eP]? = some (.cells #[.slice D8 kL.length D9, .slice qI kP.length qx, .slice pq mP.length oK] 28 (0, 0))) := ⟨bq⟩
       have Fv : ah (Below w.heap.size w (J6.setCell ⟨eP, 0, none⟩ (.slice D8 kL.length D9))) := ⟨bb⟩
       try clear aT
       try clear aU
       try clear aV
       try clear jw
       try clear dH
       try clear eY
       try clear HB
       generalize (J6.setCell ⟨eP, 0, none⟩ (.slice D8 kL.length D9)) = w63 at xK xM yC Ad C9 D6 Fv ⊢
       have aT := xK
       have aU := xM
       have aV := yC
       have jw := Ad
       have dH := C9
       have eY := D6
       have HB := Fv
       clear xK xM yC Ad C9 D6 Fv
       replace aT := ak (Kd.jX aT.out)
       replace aU := ak (Kd.jX aU.out)
       replace aV := ak (Kd.jX aV.out)
       replace jw := ak (Kd.jX jw.out)
       replace dH := ak (bH dH.out)
       replace eY := ak (bH eY.out)
       replace HB := ak (iy HB.out)
       refine ro [1, 4, 6] [0, 1, 2, 3, 5, 4, 6, 7, 8, 9, 10, 11, 12, 13, 14, 15] (fun w' => w'.cell? ⟨eP, 0, none⟩ = some (.slice D8 kL.length D9) ∧ w'.cell? ⟨eP, 1, none⟩ = some (.slice qI kP.length qx) ∧ w'.cell? ⟨eP, 2, none⟩ = some (.slice pq mP.length oK) ∧ w'.cell? ⟨lW, 0, none⟩ = some (.slice yH jK.length xW) ∧ w'.cell? ⟨lW, 1, none⟩ = some (.slice qI kP.length qx) ∧ w'.cell? ⟨lW, 2, none⟩ = some (.slice pq mP.length oK)) ⟨(aA eY.out 0).trans rfl, (aA eY.out 1).trans rfl, (aA eY.out 2).trans rfl, (aA dH.out 0).trans rfl, (aA dH.out 1).trans rfl, (aA dH.out 2).trans rfl⟩ ?_
       generalize w63.drew = w64 at aT aU aV jw dH eY HB ⊢
       repeat (first | refine yS ?_ | refine P_ ?_)
       refine rB Tryz.func26 (kF.calls (cu ((Kd.au jw.out).2.2)) ((Kd.au jw.out).2.1) (cu ((Kd.au aU.out).2.2)) ((Kd.au aU.out).2.1) (cu ((Kd.au aV.out).2.2)) ((Kd.au aV.out).2.1) ?rZ A29.out) ?_
       (case rZ => first | exact HG.out | exact MaxOk.below HG.out bb | (repeat (first | exact HG.out | apply MaxOk.drewN | apply MaxOk.drew)))
       intro w65 hb
       replace aT := rb aT hb
       replace aU := rb aU hb
       replace aV := rb aV hb
       replace jw := rb jw hb
       replace dH := kb dH hb
       replace eY := kb eY hb
       replace HB := bz HB hb
       clear hb
       refine ⟨sx, ?_⟩
       repeat (first | refine yS ?_ | refine P_ ?_)
       refine rB Tryz.func34 (lM.calls (cu ((Kd.au jw.out).2.2)) ((Kd.au jw.out).2.1) (cu ((Kd.au aU.out).2.2)) ((Kd.au aU.out).2.1) (cu ((Kd.au aV.out).2.2)) ((Kd.au aV.out).2.1) ?rZ A31.out) ?_
       (case rZ => first | exact HG.out | exact MaxOk.below HG.out bb | (repeat (first | exact HG.out | apply MaxOk.drewN | apply MaxOk.drew)))
       intro w66 hb
       replace aT := rb aT hb
       replace aU := rb aU hb
       replace aV := rb aV hb
       replace jw := rb jw hb
       replace dH := kb dH hb
       replace eY := kb eY hb
       replace HB := bz HB hb
       clear hb
       refine ⟨sx, ?_⟩
       refine rB Tryz.func34 (lM.calls (cu ((Kd.au aT.out).2.2)) ((Kd.au aT.out).2.1) (cu ((Kd.au aU.out).2.2)) ((Kd.au aU.out).2.1) (cu ((Kd.au aV.out).2.2)) ((Kd.au aV.out).2.1) ?rZ A32.out) ?_
       (case rZ => first | exact HG.out | exact MaxOk.below HG.out bb | (repeat (first | exact HG.out | apply MaxOk.drewN | apply MaxOk.drew)))
       intro w67 hb
       replace aT := rb aT hb
       replace aU := rb aU hb
       replace aV := rb aV hb
       replace jw := rb jw hb
       replace dH := kb dH hb
       replace eY := kb eY hb
       replace HB := bz HB hb
       clear hb
       refine ⟨sx, ?_⟩
       repeat (first | refine yS ?_ | refine P_ ?_)
       refine on ?_
       try go_wp2
       go_ret
       exact ⟨er, bb⟩
     ·
      obtain rfl := s1 H
      have z68 := ku dH.out
      try go_wp2_with (first | (refine gG 5 ?_; refine bY HB 5 #[.slice none 0 0, .slice none 0 0, .slice none 0 0] 28 ?_; intro eP w69 eY agu hg hb; have Ai := Au dH hg; have Aj := Aw dH hg; replace aT := rb aT hb; replace aU := rb aU hb; replace aV := ak (Kd.rD (Kd.wB (ur aV.out) eP (Nat.le_of_eq hg.symm)) hb); replace dH := kb dH hb; replace HB := bz HB hb; clear hb hg; have aDQ := Aj.out; have aDR := Ai.out; have z71 := ku eY.out) | (refine gG 32 ?_; refine F8 32 pU 69 ZG ?_; intro X_ w72 ai8 hb; have wO := ak (Kd.aG (Kd.fK ai8 (Kd.jH (rh aT))) (aj bb)); replace aT := ak (Kd.fA (rh aT) (Kd.eH ai8) hb); replace aU := rg aU hb; replace aV := ak (Kd.fA (ur (Kd.aY (Kd.jy (p := ⟨eP, 2, none⟩) (Kd.jy (p := ⟨eP, 1, none⟩) (Kd.jy (p := ⟨eP, 0, none⟩) (Kd.aY aV.out (fun k_ hk => (⟨hk, hk.2⟩ : _ ∧ k_ ≠ eP))) (fun _ hk => hk.2) (.slice yH jK.length xW)) (fun _ hk => hk.2) (.slice qI kP.length qx)) (fun _ hk => hk.2) (.slice pq mP.length oK)) (fun _ h_ => h_.1))) (Kd.eH ai8) hb); replace dH := kp dH #[.slice yH jK.length xW, .slice qI kP.length qx, .slice pq mP.length oK] hb; replace eY := kp eY #[.slice yH jK.length xW, .slice qI kP.length qx, .slice pq mP.length oK] hb; replace HB := bz HB hb; clear hb ai8; have z74 := ku dH.out) | ((with_reducible refine dN (b := .append) (xs := #[.tmp 32, .tmp 34]) rfl ?_); (try (refine jJ (by rfl) ?_; dsimp only)); at_builtin; refine Kd.nP pU (w0 := w) w.heap.size rfl (.tmp 32) (.tmp 34) 25 69 (.agg #[(.string ⟨#[]⟩), (.string ⟨#[]⟩)]) 32 rfl Tryz.underlying25 xB rfl (by decide) (by omega) X_ Uk jK _ _ _ (fun k_ => some k_ ≠ (.slice yH jK.length xW : Value).ownBlock) (fun _ => False) rfl rfl ?aO ?aR (fun _ _ h => h) (fun _ h => h.elim) ?aF ?aB ?aS ?aL ?_; (case aR => repeat (first | exact (Kd.au aT.out).2.2 | (with_reducible refine Kd.pV ?_ _) | (with_reducible refine Kd.pW ?_ _) | (with_reducible refine Kd.sU ?_))); (case aB => exact bb); (case aF => exact (fun k_ hk => Kd.fresh' (Kd.jH (ur aT.out)) k_ hk)); (case aO => exact (ur (Kd.aY wO.out (fun _ hk => hk.2)))); (case aS => exact (aj bb)); (case aL => have := QF.out; omega); intro Ya w75 ho hb hg hat; rw [← ZH.out] at ho; have wP := ak (ho); replace aT := ak (Kd.qo (ok := (fun _ => True)) (ur aT.out) hg hat); replace aU := ak (Kd.nZ (ur aU.out) (Kd.jM (ur wO.out)) (by decide) hg); replace aV := ak (Kd.qo (ok := (fun k_ => some k_ ≠ (.slice yH jK.length xW : Value).ownBlock ∧ some k_ ≠ (.slice qI kP.length qx : Value).ownBlock ∧ k_ ≠ lW ∧ k_ ≠ eP)) (ur (Kd.aY aV.out (fun _ hk => ⟨⟨hk.1.1.1, ⟨hk.1.1.2.1, ⟨hk.1.1.2.2, hk.1.2⟩⟩⟩, hk.2⟩))) hg hat); replace dH := ak (bM (g := lW) (o := .cells #[.slice yH jK.length xW, .slice qI kP.length qx, .slice pq mP.length oK] 28 (0, 0)) (ub dH.out) hg (Kd.nO wO.out dH.out (by decide))); replace eY := ak (bM (g := eP) (o := .cells #[.slice yH jK.length xW, .slice qI kP.length qx, .slice pq mP.length oK] 28 (0, 0)) (ub eY.out) hg (Kd.nO wO.out eY.out (by decide))); replace HB := ak (hb); clear ho hb hg hat wO) | ((with_reducible refine dN (b := .append) (xs := #[.tmp 35, .tmp 37]) rfl ?_); (try (refine jJ (by rfl) ?_; dsimp only)); at_builtin; refine Kd.oP pU (w0 := w) w.heap.size rfl (.tmp 35) (.tmp 37) 25 69 (.agg #[(.string ⟨#[]⟩), (.string ⟨#[]⟩)]) 32 rfl Tryz.underlying25 xB rfl (by decide) (by omega) Ya Ul (⟨(⟨#[88, 45, 78, 101, 119]⟩ : ByteArray), (⟨#[49]⟩ : ByteArray)⟩ : gK) [.string (⟨#[88, 45, 78, 101, 119]⟩ : ByteArray), .string (⟨#[49]⟩ : ByteArray)] (fun k_ => some k_ ≠ (.slice yH jK.length xW : Value).ownBlock) (fun _ => False) rfl rfl ?aP (fun _ hk => hk.elim) ?aF ?aO ?aB ?aS ?aL ?_; (case aP => exact uU _ _ _ (⟨(⟨#[88, 45, 78, 101, 119]⟩ : ByteArray), (⟨#[49]⟩ : ByteArray)⟩ : gK)); (case aB => exact bb); (case aF => exact (fun k_ hk => Kd.fresh' (Kd.jH (ur aT.out)) k_ hk)); (case aO => exact (ur wP.out)); (case aS => exact (aj bb)); (case aL => have := X9.out; omega); intro ama w76 ho hb hg hat; rw [← ZI.out] at ho; have jw := ak (ho); replace aT := ak (Kd.qo (ok := (fun _ => True)) (ur aT.out) hg hat); replace aU := ak (Kd.nZ (ur aU.out) (Kd.jM (ur wP.out)) (by decide) hg); replace aV := ak (Kd.qo (ok := (fun k_ => some k_ ≠ (.slice yH jK.length xW : Value).ownBlock ∧ some k_ ≠ (.slice qI kP.length qx : Value).ownBlock ∧ k_ ≠ lW ∧ k_ ≠ eP)) (ur aV.out) hg hat); replace dH := ak (bM (g := lW) (o := .cells #[.slice yH jK.length xW, .slice qI kP.length qx, .slice pq mP.length oK] 28 (0, 0)) (ub dH.out) hg (Kd.nO wP.out dH.out (by decide))); replace eY := ak (bM (g := eP) (o := .cells #[.slice yH jK.length xW, .slice qI kP.length qx, .slice pq mP.length oK] 28 (0, 0)) (ub eY.out) hg (Kd.nO wP.out eY.out (by decide))); replace HB := ak (hb); clear ho hb hg hat wP; obtain ⟨Gy, Gz, aBf⟩ := Kd.aX jw.out; subst aBf; have z78 := ku eY.out))
      have xK : ah (Kd.R pU 69 (w76.setCell ⟨eP, 0, none⟩ (.slice Gy kL.length Gz)) w.heap.size (fun k_ => some k_ ≠ (.slice Gy kL.length Gz : Value).ownBlock) (.slice yH jK.length xW) jK) := ⟨ur (Kd.aY (Kd.jy (p := ⟨eP, 0, none⟩) (Kd.kE aT.out eY.out (by decide)) (fun _ hk => hk.2) (.slice Gy kL.length Gz)) (fun _ hk => hk.1.2))⟩
      have xM : ah (Kd.R Kd.string 9 (w76.setCell ⟨eP, 0, none⟩ (.slice Gy kL.length Gz)) w.heap.size (fun _ => True) (.slice qI kP.length qx) kP) := ⟨ur (Kd.aY (Kd.jy (p := ⟨eP, 0, none⟩) (Kd.kE aU.out eY.out (by decide)) (fun _ hk => hk.2) (.slice Gy kL.length Gz)) (fun _ hk => trivial))⟩
      have yC : ah (Kd.R k28 28 (w76.setCell ⟨eP, 0, none⟩ (.slice Gy kL.length Gz)) w.heap.size (fun k_ => some k_ ≠ (.slice yH jK.length xW : Value).ownBlock ∧ some k_ ≠ (.slice qI kP.length qx : Value).ownBlock ∧ some k_ ≠ (.slice Gy kL.length Gz : Value).ownBlock ∧ k_ ≠ lW ∧ k_ ≠ eP) (.slice pq mP.length oK) mP) := ⟨ur (Kd.aY (Kd.jy (p := ⟨eP, 0, none⟩) (Kd.aY aV.out (fun k_ hk => (⟨hk, hk.1.2.2.2⟩ : _ ∧ k_ ≠ eP))) (fun _ hk => hk.2) (.slice Gy kL.length Gz)) (fun _ hk => ⟨hk.1.1.1, ⟨hk.1.1.2.1, ⟨hk.1.2, ⟨hk.1.1.2.2.1, hk.1.1.2.2.2⟩⟩⟩⟩))⟩
      have Ad : ah (Kd.R pU 69 (w76.setCell ⟨eP, 0, none⟩ (.slice Gy kL.length Gz)) w.heap.size (fun k_ => some k_ ≠ (.slice yH jK.length xW : Value).ownBlock) (.slice Gy kL.length Gz) kL) := ⟨ur (Kd.aY (Kd.jy (p := ⟨eP, 0, none⟩) (Kd.kE jw.out eY.out (by decide)) (fun _ hk => hk.2) (.slice Gy kL.length Gz)) (fun _ hk => hk.1))⟩
      have C9 : ah ((w76.setCell ⟨eP, 0, none⟩ (.slice Gy kL.length Gz)).heap[lW]? = some (.cells #[.slice yH jK.length xW, .slice qI kP.length qx, .slice pq mP.length oK] 28 (0, 0))) := ⟨bq⟩
      have D6 : ah ((w76.setCell ⟨eP, 0, none⟩ (.slice Gy kL.length Gz)).heap[eP]? = some (.cells #[.slice Gy kL.length Gz, .slice qI kP.length qx, .slice pq mP.length oK] 28 (0, 0))) := ⟨bq⟩
      have Fv : ah (Below w.heap.size w (w76.setCell ⟨eP, 0, none⟩ (.slice Gy kL.length Gz))) := ⟨bb⟩
      try clear aT
      try clear aU
      try clear aV
      try clear jw
      try clear dH
      try clear eY
      try clear HB
      generalize (w76.setCell ⟨eP, 0, none⟩ (.slice Gy kL.length Gz)) = w79 at xK xM yC Ad C9 D6 Fv ⊢
      have aT := xK
      have aU := xM
      have aV := yC
      have jw := Ad
      have dH := C9
      have eY := D6
      have HB := Fv
      clear xK xM yC Ad C9 D6 Fv
      replace aT := ak (Kd.jX aT.out)
      replace aU := ak (Kd.jX aU.out)
      replace aV := ak (Kd.jX aV.out)
      replace jw := ak (Kd.jX jw.out)
      replace dH := ak (bH dH.out)
      replace eY := ak (bH eY.out)
      replace HB := ak (iy HB.out)
      refine ro [1] [0, 1, 2, 3, 4, 5, 6, 7, 8, 9, 10, 11, 12, 13, 14, 15] (fun w' => w'.cell? ⟨eP, 0, none⟩ = some (.slice Gy kL.length Gz) ∧ w'.cell? ⟨eP, 1, none⟩ = some (.slice qI kP.length qx) ∧ w'.cell? ⟨eP, 2, none⟩ = some (.slice pq mP.length oK)) ⟨(aA eY.out 0).trans rfl, (aA eY.out 1).trans rfl, (aA eY.out 2).trans rfl⟩ ?_
      generalize w79.drew = w80 at aT aU aV jw dH eY HB ⊢
      repeat (first | refine yS ?_ | refine P_ ?_)
      refine rB Tryz.func26 (kF.calls (cu ((Kd.au jw.out).2.2)) ((Kd.au jw.out).2.1) (cu ((Kd.au aU.out).2.2)) ((Kd.au aU.out).2.1) (cu ((Kd.au aV.out).2.2)) ((Kd.au aV.out).2.1) ?rZ A29.out) ?_
      (case rZ => first | exact HG.out | exact MaxOk.below HG.out bb | (repeat (first | exact HG.out | apply MaxOk.drewN | apply MaxOk.drew)))
      intro w81 hb
      replace aT := rb aT hb
      replace aU := rb aU hb
      replace aV := rb aV hb
      replace jw := rb jw hb
      replace dH := kb dH hb
      replace eY := kb eY hb
      replace HB := bz HB hb
      clear hb
      refine ⟨sx, ?_⟩
      repeat (first | refine yS ?_ | refine P_ ?_)
      refine on ?_
      try go_wp2
      go_ret
      exact ⟨er, bb⟩
/-- THE ONE PURE STATEMENT of laws_FnPartValid: yours. -/
def dJ.Pure : Prop := ∀ (l0 : List Int), l0.length ≤ maxLen → l0.length * 1 ≤ 140737488351232 → (∀ x ∈ l0, (Lit.int .u8 x).wf = true) → ∃ k, dJ.f k l0 = some true
theorem dJ.walk (P : dJ.Pure) (a0 : Option Addr) (len0 cap0 : Nat) (z0 : List Int) (w : World) (w0 : (a0 = none ∧ len0 = 0 ∧ cap0 = 0 ∧ z0 = []) ∨ ∃ x, a0 = some x ∧ len0 ≤ cap0 ∧ cap0 ≤ maxLen ∧ z0.length = cap0 ∧ (∀ i, i < z0.length → w.cell? (x.add i) = some (.int .u8 (z0.getD i 0))) ∧ ∀ n ∈ z0, (Lit.int .u8 n).wf = true) (y0 : len0 * 1 ≤ 140737488351232) (CX : MaxOk w) :
  Calls Tryz.prog 14 #[.slice a0 len0 cap0] w fun e w' => e = .returned (.bool true) ∧ Below w.heap.size w w' := by
 obtain ⟨l0, rfl, hr0, hm0, hw0, hc0⟩ := mF.aoT w0
 obtain ⟨k, h⟩ := P l0 hm0 y0 hw0
 refine (dJ.calls (Kd.Jg (d := (0 : Int)) (h1 := fun _ => rfl) hr0) hc0 CX h).mono ?_
 rintro e w' ⟨rfl, hd⟩
 exact ⟨rfl, hd⟩
end Go.Proofs.YtncdadcmghglkaaGreatDoor.PFnPartValid
