/- Printed walks; conditions: those in each statement. -/
import Derived.Test.YtncdadcmghglkaaGreatDoorVFnCountPartsQt
import Derived.Test.YtncdadcmghglkaaGreatDoorVFnCountPartsYt
import Derived.Test.YtncdadcmghglkaaGreatDoorPFnCountPartsx0
import Derived.Test.YtncdadcmghglkaaGreatDoorPFnCountPartsx12
import Derived.Test.YtncdadcmghglkaaGreatDoorPFnCountPartsx17
import Derived.Test.YtncdadcmghglkaaGreatDoorPFnCountPartsx18
-- short
-- dense
-- sq
-- sq2
namespace Go.Proofs.YtncdadcmghglkaaGreatDoor.PFnCountParts
open Go.RowKit Go.Proofs.YtncdadcmghglkaaGreatDoor.X Go.Proofs.YtncdadcmghglkaaGreatDoorW.bI Go.Proofs.YtncdadcmghglkaaGreatDoorW.gI Go.Proofs.YtncdadcmghglkaaGreatDoorW.iL
attribute [local go_sem] kN kP mF mG jB jC kQ kR   -- for this text's walks alone
set_option linter.unusedVariables false
set_option maxHeartbeats 8000000
set_option maxRecDepth 100000
set_option linter.unusedSimpArgs false
mutual
def bG.j0 : Nat → Int → Bool → List (gY) → List ByteArray → List (nG) → Option (Bool)
 | 0, _, _, _, _, _ => none
 | k + 1, x1, x17, xH, wE, pI => if x17 = true then (some false) else ((kC.f k xH).bind fun Zn => (if Zn.2 = true then (if (wE.length : Int) > 0 then (bG.j1 k x1 Zn.1 true xH wE pI) else (if (pI.length : Int) < 1 then (bG.j1 k x1 Zn.1 true xH wE pI) else (bG.j1 k x1 Zn.1 (decide ((pI.length : Int) > 4)) xH wE pI))) else (if (pI.length : Int) = 0 then ((iJ.f k wE).bind fun aqn => (some aqn)) else (some false))))
def bG.j1 : Nat → Int → ByteArray → Bool → List (gY) → List ByteArray → List (nG) → Option (Bool)
 | 0, _, _, _, _, _, _ => none
 | k + 1, x1, x5, x50, xH, wE, pI => if x50 = true then (some false) else (bG.l0 k x1 x5 0 xH wE pI)
def bG.l0 : Nat → Int → ByteArray → Int → List (gY) → List ByteArray → List (nG) → Option (Bool)
 | 0, _, _, _, _, _, _ => none
 | k + 1, x1, x5, x7, xH, wE, pI => if x7 < (pI.length : Int) then (if 0 ≤ x7 then ((bG.f k ((bK pI x7).f0) ((bK pI x7).f1) ((bK pI x7).f2) (wrap64 (x1 - 1))).bind fun aqo => (if aqo = true then ((je.f k ((bK pI x7).f0) ((bK pI x7).f1) ((bK pI x7).f2)).bind fun Xz => (bG.l1 k x1 x5 x7 Xz 0 xH wE pI)) else (some false))) else (none)) else (some true)
def bG.l1 : Nat → Int → ByteArray → Int → List ByteArray → Int → List (gY) → List ByteArray → List (nG) → Option (Bool)
 | 0, _, _, _, _, _, _, _, _ => none
 | k + 1, x1, x5, x7, x8, x9, xH, wE, pI => if x9 < (x8.length : Int) then (if 0 ≤ x9 then ((nX.f (o8 ByteArray.empty x8 x9) x5).bind fun aqp => (if aqp = true then (some false) else (bG.l1 k x1 x5 x7 x8 (wrap64 (x9 + 1)) xH wE pI))) else (none)) else (bG.l0 k x1 x5 (wrap64 (x7 + 1)) xH wE pI)
def bG.f : Nat → List (gY) → List ByteArray → List (nG) → Int → Option (Bool)
 | 0, _, _, _, _ => none
 | k + 1, dh, bU, aC, a1 => (gu.f k dh).bind fun aqr => (if aqr = true then (bG.j0 k a1 (decide (a1 < 1)) dh bU aC) else (bG.j0 k a1 true dh bU aC))
end
theorem bG.calls (k : Nat) : ∀ (jf : Option Addr) (jg : Nat) (dh : List (gY)) (iY : Option Addr) (iZ : Nat) (bU : List ByteArray) (gX : Option Addr) (eY : Nat) (aC : List (nG)) (a1 : Int) (r : Bool) (w : World) (lZ : Kd.C qJ w jf dh.length dh) (l7 : dh.length ≤ jg) (l9 : Kd.C Kd.string w iY bU.length bU) (mg : bU.length ≤ iZ) (jJ : Kd.C k28 w gX aC.length aC) (jK : aC.length ≤ eY) (h : bG.f k dh bU aC a1 = some r),
  Calls Tryz.prog 72 #[.agg #[.slice jf dh.length jg, .slice iY bU.length iZ, .slice gX aC.length eY], .int .i64 a1] w fun e w' => e = .returned (.bool r) ∧ Below w.heap.size w w' := by
 induction k using Nat.strongRecOn with
 | _ k ih =>
 intro jf jg dh iY iZ bU gX eY aC a1 r w lZ l7 l9 mg jJ jK h
 cases k with
 | zero => exact absurd h (by simp [bG.f])
 | succ k =>
 simp only [bG.f] at h
 have CG := Tryz.underlying28
 have oO := ak lZ
 have pG := ak l7
 clear lZ l7
 have rE := ak l9
 have uG := ak mg
 clear l9 mg
 have jm := ak jJ
 have lJ := ak jK
 clear jJ jK
 have HB := ak (Below.refl w.heap.size w)
 have H := h
 clear h
 have O7 := ak H
 clear H
 go_enter Tryz.func72, Tryz.ntmps72
 go_upto_region 1 with (refine gG 2 ?_; refine bX HB 2 #[.slice jf dh.length jg, .slice iY bU.length iZ, .slice gX aC.length eY] 28 ?_; intro Zo w4 m_ aAW hb; replace HB := bs HB hb; clear hb)
 (try simp only [Act.put, qW, qX, l_c])
 go_cut [17] (fun v17 wc => ∃ (kq : Nat) (O8 : Bool), v17 = .bool O8 ∧ ah (bG.j0 kq a1 O8 dh bU aC = some r) ∧ ah (kq ≤ k) ∧ ah (wc.heap[Zo]? = some (.cells #[(.slice jf dh.length jg), (.slice iY bU.length iZ), (.slice gX aC.length eY)] 28 (0, 0))) ∧ ah (Below w.heap.size w wc))
 case first =>
  have H := O7.out
  clear O7
  replace H := bd H; obtain ⟨aqr, A5, H⟩ := H; replace H := sb H
  rcases H with ⟨rfl, H⟩ | ⟨rfl, H⟩
  ·
   have H' := ak H; clear H
   have z7 := jW m_.out
   go_wp2_with (refine gB Tryz.func113 (gu.calls (cu (Kd.aW oO.out HB.out)) pG.out A5.out) ?_; intro w8 hb; replace m_ := kb m_ hb; replace HB := bz HB hb; clear hb)
   go_meet
   case rel => exact ⟨_, _, rs, H', ⟨KR⟩, ⟨ub m_.out⟩, ⟨bb⟩⟩
  ·
   have H' := ak H; clear H
   have z9 := jW m_.out
   go_wp2_with (refine gB Tryz.func113 (gu.calls (cu (Kd.aW oO.out HB.out)) pG.out A5.out) ?_; intro w10 hb; replace m_ := kb m_ hb; replace HB := bz HB hb; clear hb)
   go_meet
   case rel => exact ⟨_, _, rs, H', ⟨KR⟩, ⟨ub m_.out⟩, ⟨bb⟩⟩
 case rest =>
  clear O7
  obtain ⟨kq, O8, rfl, HA, HJ2, m_, HB⟩ := hcut
  cases kq with
  | zero => exact zz HA.out
  | succ Y9 =>
   obtain ⟨H⟩ := HA
   simp only [bG.j0] at H
   replace H := sb H
   rcases H with ⟨rfl, H⟩ | ⟨rfl, H⟩
   ·
    obtain rfl := s1 H
    go_wp2
    go_ret
    exact ⟨er, bb⟩
   ·
    replace H := bd H
    obtain ⟨⟨amc, aEw⟩, A12, H⟩ := H
    (try dsimp only at H)
    replace H := sb H
    rcases H with ⟨rfl, H⟩ | ⟨rfl, H⟩
    ·
     have amd := ak H
     clear H
     have z15 := jW m_.out
     go_upto_region 6 with (refine gB Tryz.func108 (kC.calls (cu (Kd.aW oO.out HB.out)) pG.out A12.out) ?_; intro w16 hb; replace m_ := kb m_ hb; replace HB := bz HB hb; clear hb)
     (try simp only [Act.put, qW, qX, l_c])
     go_cut [50] (fun v50 wc => ∃ (kq : Nat) (XA : Bool), v50 = .bool XA ∧ ah (bG.j1 kq a1 amc XA dh bU aC = some r) ∧ ah (kq ≤ Y9) ∧ ah (wc.heap[Zo]? = some (.cells #[(.slice jf dh.length jg), (.slice iY bU.length iZ), (.slice gX aC.length eY)] 28 (0, 0))) ∧ ah (Below w.heap.size w wc))
     case first =>
      have H := amd.out
      clear amd
      replace H := sp H
      rcases H with ⟨c17, H⟩ | ⟨c17, H⟩
      ·
       have tq : decide (0 < (bU.length : Int)) = true := decide_eq_true c17
       have MJ : decide (0 < bU.length) = true := decide_eq_true (by omega)
       clear c17
       (first | rw [tq] | (simp only [dU, fU]; rw [tq]) | skip)
       have H' := ak H; clear H
       have z18 := jW m_.out
       go_wp2
       go_meet
       case rel => exact ⟨_, _, rs, H', ⟨kl⟩, ⟨ub m_.out⟩, ⟨bb⟩⟩
      ·
       have tq : decide (0 < (bU.length : Int)) = false := decide_eq_false c17
       have MJ : decide (0 < bU.length) = false := decide_eq_false (by omega)
       clear c17
       (first | rw [tq] | (simp only [dU, fU]; rw [tq]) | skip)
       replace H := sp H
       rcases H with ⟨c19, H⟩ | ⟨c19, H⟩
       ·
        have z_ := decide_eq_true c19
        have Ea : decide (aC.length < 1) = true := decide_eq_true (by omega)
        clear c19
        have H' := ak H; clear H
        have z20 := jW m_.out
        go_wp2
        go_meet
        case rel => exact ⟨_, _, rs, H', ⟨kl⟩, ⟨ub m_.out⟩, ⟨bb⟩⟩
       ·
        have z_ := decide_eq_false c19
        have Ea : decide (aC.length < 1) = false := decide_eq_false (by omega)
        clear c19
        have H' := ak H; clear H
        have z21 := jW m_.out
        go_wp2
        go_meet
        case rel => exact ⟨_, _, rs, H', ⟨kl⟩, ⟨ub m_.out⟩, ⟨bb⟩⟩
     case rest =>
      clear amd
      obtain ⟨kq, XA, rfl, HA, abH, m_, HB⟩ := hcut
      cases kq with
      | zero => exact zz HA.out
      | succ aqs =>
       obtain ⟨H⟩ := HA
       simp only [bG.j1] at H
       replace H := sb H
       rcases H with ⟨rfl, H⟩ | ⟨rfl, H⟩
       ·
        obtain rfl := s1 H
        go_wp2
        go_ret
        exact ⟨er, bb⟩
       ·
        have H' := ak H; clear H
        go_wp2
        go_loopg [7] aqs (fun kq v7 w' => ∃ (pW : Int), v7 = .int .i64 pW ∧ ah (bG.l0 kq a1 amc pW dh bU aC = some r) ∧ ah (kq ≤ aqs) ∧ ah (w'.heap[Zo]? = some (.cells #[(.slice jf dh.length jg), (.slice iY bU.length iZ), (.slice gX aC.length eY)] 28 (0, 0))) ∧ ah (Below w.heap.size w w'))
        case atStart => exact ⟨_, rs, H', ⟨Nat.le_refl _⟩, ⟨ub m_.out⟩, ⟨bb⟩⟩
        case round =>
         clear H'
         obtain ⟨pW, rfl, HA, YL, m_, HB⟩ := hrel
         cases gk with
         | zero => exact zz HA.out
         | succ k3 =>
          obtain ⟨H⟩ := HA
          simp only [bG.l0] at H
          replace H := sd H
          rcases H with ⟨Ae, H⟩ | ⟨Ae, H⟩
          ·
           replace H := oM H; obtain ⟨OV, H⟩ := H; replace H := bd H; obtain ⟨aqo, A25, H⟩ := H; replace H := sb H
           rcases H with ⟨rfl, H⟩ | ⟨rfl, H⟩
           ·
            replace H := bd H; obtain ⟨Xz, A27, H⟩ := H
            have H' := ak H; clear H
            have z28 := jW m_.out
            have VE := zi pW
            have VF := zj pW aC.length
            obtain ⟨adw, ame, amf, amg, amh, ami, amj, amk, FZ, F5, F6, Jr, Js, Jt, Ju, Jv, Jw⟩ := Ce jm.out pW VE VF
            cases amk
            replace FZ := cl HB.out FZ
            replace F5 := cl HB.out F5
            replace F6 := cl HB.out F6
            have TM := ak Js
            have TN := ak Jr
            clear Js Jr
            have TP := ak Ju
            have TQ := ak Jt
            clear Ju Jt
            have TR := ak Jw
            have TS := ak Jv
            clear Jw Jv
            replace VE := eq_true VE
            replace VF := eq_true VF
            go_wp2_with (first | (refine gB Tryz.func72 (ih k3 (by have := HJ2.out; have := abH.out; have := YL.out; omega) _ _ ((bK aC pW).f0) _ _ ((bK aC pW).f1) _ _ ((bK aC pW).f2) (wrap64 (a1 - 1)) true _ (cu (Kd.aW TM.out HB.out)) TN.out (cu (Kd.aW TP.out HB.out)) TQ.out (cu (Kd.aW TR.out HB.out)) TS.out A25.out) ?_; intro w29 hb; replace m_ := kb m_ hb; replace HB := bz HB hb; clear hb; have z30 := jW m_.out; have agC : 0 ≤ (pW : Int) := of_decide_eq_true (by assumption); have agD : pW < (aC.length : Int) := of_decide_eq_true (by assumption); obtain ⟨aqt, axw, axx, axy, axz, axA, axB, axC, Ol, Om, Oo, Zp, Zq, Zr, Zt, Zu, Zv⟩ := Ce jm.out pW agC agD; obtain rfl : adw = aqt := (by injection axC); replace Ol := (HB.out.cell (World.block_lt_of_cell? w _ Ol)).trans Ol; replace Om := (HB.out.cell (World.block_lt_of_cell? w _ Om)).trans Om; replace Oo := (HB.out.cell (World.block_lt_of_cell? w _ Oo)).trans Oo; have agE := ak Zq; have agF := ak Zp; clear Zq Zp; have agG := ak Zt; have agH := ak Zr; clear Zt Zr; have agI := ak Zv; have agJ := ak Zu; clear Zv Zu; replace agC := eq_true agC; replace agD := eq_true agD) | (refine gV Tryz.func67 (je.calls k3 _ _ ((bK aC pW).f0) _ _ ((bK aC pW).f1) _ _ ((bK aC pW).f2) Xz _ (cu (Kd.aW agE.out HB.out)) agF.out (cu (Kd.aW agG.out HB.out)) agH.out (cu (Kd.aW agI.out HB.out)) agJ.out A27.out) ?_; rintro axD w31 ⟨ho0, hb⟩; have aqu := ak (Kd.aA ho0 (aj bb)); replace m_ := kb m_ hb; replace HB := bz HB hb; clear hb; (try clear ho0)))
            go_loopg [9] k3 (fun kq v9 w' => ∃ (TT : Int), v9 = .int .i64 TT ∧ ah (bG.l1 kq a1 amc pW Xz TT dh bU aC = some r) ∧ ah (kq ≤ k3) ∧ ah (Kd.R Kd.string 9 w' w.heap.size (fun _ => True) axD Xz) ∧ ah (w'.heap[Zo]? = some (.cells #[(.slice jf dh.length jg), (.slice iY bU.length iZ), (.slice (some adw) aC.length eY)] 28 (0, 0))) ∧ ah (Below w.heap.size w w'))
            case atStart => exact ⟨_, rs, H', ⟨Nat.le_refl _⟩, ⟨ur aqu.out⟩, ⟨ub m_.out⟩, ⟨bb⟩⟩
            case round =>
             clear H'
             try clear Ae
             try clear OV
             try clear FZ
             try clear F5
             try clear F6
             try clear Ol
             try clear Om
             try clear Oo
             try clear VE
             try clear agC
             try clear VF
             try clear agD
             obtain ⟨TT, rfl, HA, HK4, abI, m_, HB⟩ := hrel
             cases gk with
             | zero => exact zz HA.out
             | succ k4 =>
              obtain ⟨H⟩ := HA
              simp only [bG.l1] at H
              replace H := sd H
              rcases H with ⟨Vq, H⟩ | ⟨Vq, H⟩
              ·
               replace H := oM H; obtain ⟨Ri, H⟩ := H; replace H := bd H; obtain ⟨aqp, A34, H⟩ := H; replace H := sb H
               rcases H with ⟨rfl, H⟩ | ⟨rfl, H⟩
               ·
                obtain rfl := s1 H
                obtain ⟨XB, VG, adx⟩ := Kd.aN abI.out
                subst adx
                have XC := zi TT
                have XD := zj TT Xz.length
                obtain ⟨aqv, aml, agK⟩ := Kd.kF (Kd.au abI.out).2.2 TT XC XD
                cases aml
                replace XC := eq_true XC
                replace XD := eq_true XD
                go_wp2_with (refine gA Tryz.func115 (nX.calls A34.out) ?_; intro nd)
                go_ret
                exact ⟨er, bb⟩
               ·
                have H' := ak H; clear H
                obtain ⟨agi, agj, abw⟩ := Kd.aN abI.out
                subst abw
                have XC := zi TT
                have XD := zj TT Xz.length
                obtain ⟨aqv, aml, agK⟩ := Kd.kF (Kd.au abI.out).2.2 TT XC XD
                cases aml
                replace XC := eq_true XC
                replace XD := eq_true XD
                go_wp2_with (refine gA Tryz.func115 (nX.calls A34.out) ?_; intro nd)
                go_roundg k4
                case measure => have := HJ2.out; have := abH.out; have := YL.out; have := HK4.out; omega
                case rel => exact ⟨_, rs, H', ⟨by have := HJ2.out; have := abH.out; have := YL.out; have := HK4.out; omega⟩, ⟨ur abI.out⟩, ⟨ub m_.out⟩, ⟨bb⟩⟩
              ·
               have H' := ak H; clear H
               obtain ⟨ady, abJ, amm⟩ := Kd.aN abI.out
               subst amm
               go_wp2
               go_roundg k4
               case measure => have := HJ2.out; have := abH.out; have := YL.out; have := HK4.out; omega
               case rel => exact ⟨_, rs, H', ⟨by have := HJ2.out; have := abH.out; have := YL.out; have := HK4.out; omega⟩, ⟨ub m_.out⟩, ⟨bb⟩⟩
           ·
            obtain rfl := s1 H
            have z39 := jW m_.out
            have VE := zi pW
            have VF := zj pW aC.length
            obtain ⟨adw, ame, amf, amg, amh, ami, amj, amk, FZ, F5, F6, Jr, Js, Jt, Ju, Jv, Jw⟩ := Ce jm.out pW VE VF
            cases amk
            replace FZ := cl HB.out FZ
            replace F5 := cl HB.out F5
            replace F6 := cl HB.out F6
            have TM := ak Js
            have TN := ak Jr
            clear Js Jr
            have TP := ak Ju
            have TQ := ak Jt
            clear Ju Jt
            have TR := ak Jw
            have TS := ak Jv
            clear Jw Jv
            replace VE := eq_true VE
            replace VF := eq_true VF
            go_wp2_with (refine gB Tryz.func72 (ih k3 (by have := HJ2.out; have := abH.out; have := YL.out; omega) _ _ ((bK aC pW).f0) _ _ ((bK aC pW).f1) _ _ ((bK aC pW).f2) (wrap64 (a1 - 1)) false _ (cu (Kd.aW TM.out HB.out)) TN.out (cu (Kd.aW TP.out HB.out)) TQ.out (cu (Kd.aW TR.out HB.out)) TS.out A25.out) ?_; intro w40 hb; replace m_ := kb m_ hb; replace HB := bz HB hb; clear hb)
            go_ret
            exact ⟨er, bb⟩
          ·
           obtain rfl := s1 H
           have z41 := jW m_.out
           go_wp2
           go_ret
           exact ⟨er, bb⟩
    ·
     replace H := sp H
     rcases H with ⟨c42, H⟩ | ⟨c42, H⟩
     ·
      have aqw := beq_iff_eq.mpr c42
      have aqx := bne_eq_false_iff_eq.mpr c42
      clear c42
      replace H := bd H; obtain ⟨aqn, A43, H⟩ := H
      obtain rfl := s1 H
      have z44 := jW m_.out
      go_wp2_with (first | (refine gB Tryz.func108 (kC.calls (cu (Kd.aW oO.out HB.out)) pG.out A12.out) ?_; intro w45 hb; replace m_ := kb m_ hb; replace HB := bz HB hb; clear hb; have z46 := jW m_.out) | (go_at_call 114; refine mA (iJ.calls (cu (Kd.aW rE.out HB.out)) uG.out A43.out) ?_; intro nd))
      go_ret
      exact ⟨er, bb⟩
     ·
      have aqw := beq_eq_false_iff_ne.mpr c42
      have aqx := bne_iff_ne.mpr c42
      have aAX : ¬ (aC = []) := fun h_ => c42 (by rw [h_]; rfl)
      obtain rfl := s1 H
      have z47 := jW m_.out
      go_wp2_with (refine gB Tryz.func108 (kC.calls (cu (Kd.aW oO.out HB.out)) pG.out A12.out) ?_; intro w48 hb; replace m_ := kb m_ hb; replace HB := bz HB hb; clear hb; have z49 := jW m_.out)
      go_ret
      exact ⟨er, bb⟩
def o9.f (k : Nat) (dh : List (gY)) (bU : List ByteArray) (aC : List (nG)) : Option (Bool) := (bG.f k dh bU aC 3).bind fun amn => (some amn)
theorem o9.calls {k jg iZ eY : Nat} {jf iY gX : Option Addr} {dh : List (gY)} {bU : List ByteArray} {aC : List (nG)} {r : Bool} {w : World} (lZ : Kd.C qJ w jf dh.length dh) (l7 : dh.length ≤ jg) (l9 : Kd.C Kd.string w iY bU.length bU) (mg : bU.length ≤ iZ) (jJ : Kd.C k28 w gX aC.length aC) (jK : aC.length ≤ eY) (h : o9.f k dh bU aC = some r) :
  Calls Tryz.prog 30 #[.agg #[.slice jf dh.length jg, .slice iY bU.length iZ, .slice gX aC.length eY]] w fun e w' => e = .returned (.bool r) ∧ Below w.heap.size w w' := by
 have CG := Tryz.underlying28
 have oO := ak lZ
 have pG := ak l7
 clear lZ l7
 have rE := ak l9
 have uG := ak mg
 clear l9 mg
 have jm := ak jJ
 have lJ := ak jK
 clear jJ jK
 have HB := ak (Below.refl w.heap.size w)
 unfold o9.f at h; have H := h
 clear h
 replace H := bd H; obtain ⟨amn, A2, H⟩ := H
 obtain rfl := s1 H
 go_enter Tryz.func30, Tryz.ntmps30
 go_wp2_with (first | (refine bX HB 1 #[.slice jf dh.length jg, .slice iY bU.length iZ, .slice gX aC.length eY] 28 ?_; intro aAY w3 adz aAZ hb; replace HB := bs HB hb; clear hb; have z4 := jW adz.out) | (refine gB Tryz.func72 (bG.calls k _ _ dh _ _ bU _ _ aC 3 amn _ (cu (Kd.aW oO.out HB.out)) pG.out (cu (Kd.aW rE.out HB.out)) uG.out (cu (Kd.aW jm.out HB.out)) lJ.out A2.out) ?_; intro w5 hb; replace adz := kb adz hb; replace HB := bz HB hb; clear hb))
 go_ret
 exact ⟨er, bb⟩
mutual
def jq.l0 : Nat → Int → Int → List (gY) → List ByteArray → List (nG) → Option (Int)
 | 0, _, _, _, _, _ => none
 | k + 1, x3, x4, agL, agM, F7 => if x4 < (F7.length : Int) then (if 0 ≤ x4 then ((jq.f k ((bK F7 x4).f0) ((bK F7 x4).f1) ((bK F7 x4).f2)).bind fun amo => (jq.l0 k (wrap64 (x3 + amo)) (wrap64 (x4 + 1)) agL agM F7)) else (none)) else (if (F7.length : Int) = 0 then (some 1) else (some x3))
def jq.f : Nat → List (gY) → List ByteArray → List (nG) → Option (Int)
 | 0, _, _, _ => none
 | k + 1, dh, bU, aC => jq.l0 k 0 0 dh bU aC
end
theorem jq.calls (k : Nat) : ∀ (jf : Option Addr) (jg : Nat) (dh : List (gY)) (iY : Option Addr) (iZ : Nat) (bU : List ByteArray) (gX : Option Addr) (eY : Nat) (aC : List (nG)) (r : Int) (w : World) (lZ : Kd.C qJ w jf dh.length dh) (l7 : dh.length ≤ jg) (l9 : Kd.C Kd.string w iY bU.length bU) (mg : bU.length ≤ iZ) (jJ : Kd.C k28 w gX aC.length aC) (jK : aC.length ≤ eY) (h : jq.f k dh bU aC = some r),
  Calls Tryz.prog 77 #[.agg #[.slice jf dh.length jg, .slice iY bU.length iZ, .slice gX aC.length eY]] w fun e w' => e = .returned (.int .i64 r) ∧ Below w.heap.size w w' := by
 induction k using Nat.strongRecOn with
 | _ k ih =>
 intro jf jg dh iY iZ bU gX eY aC r w lZ l7 l9 mg jJ jK h
 cases k with
 | zero => exact absurd h (by simp [jq.f])
 | succ k =>
 simp only [jq.f] at h
 have CG := Tryz.underlying28
 have oO := ak lZ
 have pG := ak l7
 clear lZ l7
 have rE := ak l9
 have uG := ak mg
 clear l9 mg
 have jm := ak jJ
 have lJ := ak jK
 clear jJ jK
 have HB := ak (Below.refl w.heap.size w)
 have H := h
 clear h
 have H' := ak H; clear H
 go_enter Tryz.func77, Tryz.ntmps77
 go_wp2_with (refine bX HB 1 #[.slice jf dh.length jg, .slice iY bU.length iZ, .slice gX aC.length eY] 28 ?_; intro aqy w2 MS aA0 hb; replace HB := bs HB hb; clear hb)
 go_loopg [3, 4] k (fun kq v3 v4 w' => ∃ (dM : Int) (dW : Int), v3 = .int .i64 dM ∧ v4 = .int .i64 dW ∧ ah (jq.l0 kq dM dW dh bU aC = some r) ∧ ah (kq ≤ k) ∧ ah (w'.heap[aqy]? = some (.cells #[(.slice jf dh.length jg), (.slice iY bU.length iZ), (.slice gX aC.length eY)] 28 (0, 0))) ∧ ah (Below w.heap.size w w'))
 case atStart => exact ⟨_, _, rs, rs, H', ⟨Nat.le_refl _⟩, ⟨ub MS.out⟩, ⟨bb⟩⟩
 case round =>
  clear H'
  obtain ⟨dM, dW, rfl, rfl, HA, xu, MS, HB⟩ := hrel
  cases gk with
  | zero => exact zz HA.out
  | succ k1 =>
   obtain ⟨H⟩ := HA
   simp only [jq.l0] at H
   replace H := sd H
   rcases H with ⟨iQ, H⟩ | ⟨iQ, H⟩
   ·
    replace H := oM H; obtain ⟨rX, H⟩ := H; replace H := bd H; obtain ⟨amo, A5, H⟩ := H
    have H' := ak H; clear H
    have z6 := jW MS.out
    have amq := zi dW
    have amr := zj dW aC.length
    obtain ⟨aA1, axE, axF, axG, axH, axI, axJ, axK, Zw, Zx, Zy, Zz, ZA, ZB, ZC, ZE, ZF⟩ := Ce jm.out dW amq amr
    cases axK
    replace Zw := cl HB.out Zw
    replace Zx := cl HB.out Zx
    replace Zy := cl HB.out Zy
    have agN := ak ZA
    have agO := ak Zz
    clear ZA Zz
    have agP := ak ZC
    have agQ := ak ZB
    clear ZC ZB
    have agR := ak ZF
    have agS := ak ZE
    clear ZF ZE
    replace amq := eq_true amq
    replace amr := eq_true amr
    go_wp2_with (refine gB Tryz.func77 (ih k1 (by have := xu.out; omega) _ _ ((bK aC dW).f0) _ _ ((bK aC dW).f1) _ _ ((bK aC dW).f2) amo _ (cu (Kd.aW agN.out HB.out)) agO.out (cu (Kd.aW agP.out HB.out)) agQ.out (cu (Kd.aW agR.out HB.out)) agS.out A5.out) ?_; intro w7 hb; replace MS := kb MS hb; replace HB := bz HB hb; clear hb)
    go_roundg k1
    case measure => exact kl
    case rel => exact ⟨_, _, rs, rs, H', ⟨kl⟩, ⟨ub MS.out⟩, ⟨bb⟩⟩
   ·
    replace H := sp H
    rcases H with ⟨c8, H⟩ | ⟨c8, H⟩
    ·
     have sH := beq_iff_eq.mpr c8
     have Ba := bne_eq_false_iff_eq.mpr c8
     clear c8
     obtain rfl := s1 H
     have z9 := jW MS.out
     go_wp2
     go_ret
     exact ⟨er, bb⟩
    ·
     have sH := beq_eq_false_iff_ne.mpr c8
     have Ba := bne_iff_ne.mpr c8
     have adA : ¬ (aC = []) := fun h_ => c8 (by rw [h_]; rfl)
     obtain rfl := s1 H
     have z10 := jW MS.out
     go_wp2
     go_ret
     exact ⟨er, bb⟩
def kZ.f (k : Nat) (dh : List (gY)) (bU : List ByteArray) (aC : List (nG)) : Option (Int) := (o9.f k dh bU aC).bind fun aqz => (if aqz = true then ((jq.f k dh bU aC).bind fun ams => (some ams)) else (some 0))
theorem kZ.calls {k jg iZ eY : Nat} {jf iY gX : Option Addr} {dh : List (gY)} {bU : List ByteArray} {aC : List (nG)} {r : Int} {w : World} (lZ : Kd.C qJ w jf dh.length dh) (l7 : dh.length ≤ jg) (l9 : Kd.C Kd.string w iY bU.length bU) (mg : bU.length ≤ iZ) (jJ : Kd.C k28 w gX aC.length aC) (jK : aC.length ≤ eY) (h : kZ.f k dh bU aC = some r) :
  Calls Tryz.prog 33 #[.agg #[.slice jf dh.length jg, .slice iY bU.length iZ, .slice gX aC.length eY]] w fun e w' => e = .returned (.int .i64 r) ∧ Below w.heap.size w w' := by
 have CG := Tryz.underlying28
 have oO := ak lZ
 have pG := ak l7
 clear lZ l7
 have rE := ak l9
 have uG := ak mg
 clear l9 mg
 have jm := ak jJ
 have lJ := ak jK
 clear jJ jK
 have HB := ak (Below.refl w.heap.size w)
 unfold kZ.f at h; have H := h
 clear h
 replace H := bd H; obtain ⟨aqz, A2, H⟩ := H; replace H := sb H
 rcases H with ⟨rfl, H⟩ | ⟨rfl, H⟩
 ·
  replace H := bd H; obtain ⟨ams, A4, H⟩ := H
  obtain rfl := s1 H
  go_enter Tryz.func33, Tryz.ntmps33
  go_wp2_with (first | (refine bX HB 1 #[.slice jf dh.length jg, .slice iY bU.length iZ, .slice gX aC.length eY] 28 ?_; intro aqA w5 G6 aqB hb; replace HB := bs HB hb; clear hb; have z6 := jW G6.out) | (refine gB Tryz.func30 (o9.calls (cu (Kd.aW oO.out HB.out)) pG.out (cu (Kd.aW rE.out HB.out)) uG.out (cu (Kd.aW jm.out HB.out)) lJ.out A2.out) ?_; intro w7 hb; replace G6 := kb G6 hb; replace HB := bz HB hb; clear hb; have z8 := jW G6.out) | (refine gB Tryz.func77 (jq.calls k _ _ dh _ _ bU _ _ aC ams _ (cu (Kd.aW oO.out HB.out)) pG.out (cu (Kd.aW rE.out HB.out)) uG.out (cu (Kd.aW jm.out HB.out)) lJ.out A4.out) ?_; intro w9 hb; replace G6 := kb G6 hb; replace HB := bz HB hb; clear hb))
  go_ret
  exact ⟨er, bb⟩
 ·
  obtain rfl := s1 H
  go_enter Tryz.func33, Tryz.ntmps33
  go_wp2_with (first | (refine bX HB 1 #[.slice jf dh.length jg, .slice iY bU.length iZ, .slice gX aC.length eY] 28 ?_; intro aqA w10 G6 aqB hb; replace HB := bs HB hb; clear hb; have z11 := jW G6.out) | (refine gB Tryz.func30 (o9.calls (cu (Kd.aW oO.out HB.out)) pG.out (cu (Kd.aW rE.out HB.out)) uG.out (cu (Kd.aW jm.out HB.out)) lJ.out A2.out) ?_; intro w12 hb; replace G6 := kb G6 hb; replace HB := bz HB hb; clear hb))
  go_ret
  exact ⟨er, bb⟩
end Go.Proofs.YtncdadcmghglkaaGreatDoor.PFnCountParts
