/- Printed walks; conditions: those in each statement. -/
import Derived.Test.YtncdadcmghglkaaGreatDoorVFnKidValidQt
import Derived.Test.YtncdadcmghglkaaGreatDoorVFnKidValidYt
import Derived.Test.YtncdadcmghglkaaGreatDoorPFnKidValidx0
import Derived.Test.YtncdadcmghglkaaGreatDoorPFnKidValidx12
import Derived.Test.YtncdadcmghglkaaGreatDoorPFnKidValidx17
import Derived.Test.YtncdadcmghglkaaGreatDoorPFnKidValidx18
-- short
-- dense
-- sq
-- sq2
namespace Go.Proofs.YtncdadcmghglkaaGreatDoor.PFnKidValid
open Go.RowKit Go.Proofs.YtncdadcmghglkaaGreatDoor.X Go.Proofs.YtncdadcmghglkaaGreatDoorW.bI Go.Proofs.YtncdadcmghglkaaGreatDoorW.gq Go.Proofs.YtncdadcmghglkaaGreatDoorW.iJ
attribute [local go_sem] kJ kK mD mF jv jw kL kM   -- for this text's walks alone
set_option linter.unusedVariables false
set_option maxHeartbeats 8000000
set_option maxRecDepth 100000
set_option linter.unusedSimpArgs false
mutual
def bJ.j0 : Nat → Int → Bool → List (gU) → List ByteArray → List (mY) → Option (Bool)
 | 0, _, _, _, _, _ => none
 | k + 1, x1, x17, xP, wO, pJ => if x17 = true then (some false) else ((jX.f k xP).bind fun aad => (if aad.2 = true then (if (wO.length : Int) > 0 then (bJ.j1 k x1 aad.1 true xP wO pJ) else (if (pJ.length : Int) < 1 then (bJ.j1 k x1 aad.1 true xP wO pJ) else (bJ.j1 k x1 aad.1 (decide ((pJ.length : Int) > 4)) xP wO pJ))) else (if (pJ.length : Int) = 0 then ((iH.f k wO).bind fun arD => (some arD)) else (some false))))
def bJ.j1 : Nat → Int → ByteArray → Bool → List (gU) → List ByteArray → List (mY) → Option (Bool)
 | 0, _, _, _, _, _, _ => none
 | k + 1, x1, x5, x50, xP, wO, pJ => if x50 = true then (some false) else (bJ.l0 k x1 x5 0 xP wO pJ)
def bJ.l0 : Nat → Int → ByteArray → Int → List (gU) → List ByteArray → List (mY) → Option (Bool)
 | 0, _, _, _, _, _, _ => none
 | k + 1, x1, x5, x7, xP, wO, pJ => if x7 < (pJ.length : Int) then (if 0 ≤ x7 then ((bJ.f k ((bg pJ x7).f0) ((bg pJ x7).f1) ((bg pJ x7).f2) (wrap64 (x1 - 1))).bind fun arE => (if arE = true then ((jm.f k ((bg pJ x7).f0) ((bg pJ x7).f1) ((bg pJ x7).f2)).bind fun Yl => (bJ.l1 k x1 x5 x7 Yl 0 xP wO pJ)) else (some false))) else (none)) else (some true)
def bJ.l1 : Nat → Int → ByteArray → Int → List ByteArray → Int → List (gU) → List ByteArray → List (mY) → Option (Bool)
 | 0, _, _, _, _, _, _, _, _ => none
 | k + 1, x1, x5, x7, x8, x9, xP, wO, pJ => if x9 < (x8.length : Int) then (if 0 ≤ x9 then ((nV.f (o9 ByteArray.empty x8 x9) x5).bind fun arF => (if arF = true then (some false) else (bJ.l1 k x1 x5 x7 x8 (wrap64 (x9 + 1)) xP wO pJ))) else (none)) else (bJ.l0 k x1 x5 (wrap64 (x7 + 1)) xP wO pJ)
def bJ.f : Nat → List (gU) → List ByteArray → List (mY) → Int → Option (Bool)
 | 0, _, _, _, _ => none
 | k + 1, dh, bU, ay, a1 => (fZ.f k dh).bind fun arG => (if arG = true then (bJ.j0 k a1 (decide (a1 < 1)) dh bU ay) else (bJ.j0 k a1 true dh bU ay))
end
theorem bJ.calls (k : Nat) : ∀ (iY : Option Addr) (iZ : Nat) (dh : List (gU)) (iU : Option Addr) (iV : Nat) (bU : List ByteArray) (gW : Option Addr) (fA : Nat) (ay : List (mY)) (a1 : Int) (r : Bool) (w : World) (lW : Kd.C qj w iY dh.length dh) (lX : dh.length ≤ iZ) (lY : Kd.C Kd.string w iU bU.length bU) (lZ : bU.length ≤ iV) (jG : Kd.C k28 w gW ay.length ay) (jH : ay.length ≤ fA) (h : bJ.f k dh bU ay a1 = some r),
  Calls Tryz.prog 72 #[.agg #[.slice iY dh.length iZ, .slice iU bU.length iV, .slice gW ay.length fA], .int .i64 a1] w fun e w' => e = .returned (.bool r) ∧ Below w.heap.size w w' := by
 induction k using Nat.strongRecOn with
 | _ k ih =>
 intro iY iZ dh iU iV bU gW fA ay a1 r w lW lX lY lZ jG jH h
 cases k with
 | zero => exact absurd h (by simp [bJ.f])
 | succ k =>
 simp only [bJ.f] at h
 have Dj := Tryz.underlying28
 have oP := ak lW
 have pI := ak lX
 clear lW lX
 have rE := ak lY
 have uG := ak lZ
 clear lY lZ
 have jh := ak jG
 have lC := ak jH
 clear jG jH
 have HB := ak (Below.refl w.heap.size w)
 have H := h
 clear h
 have P9 := ak H
 clear H
 go_enter Tryz.func72, Tryz.ntmps72
 go_upto_region 1 with (refine gG 2 ?_; refine bX HB 2 #[.slice iY dh.length iZ, .slice iU bU.length iV, .slice gW ay.length fA] 28 ?_; intro aae w4 m_ aCn hb; replace HB := bs HB hb; clear hb)
 (try simp only [Act.put, qQ, qR, l_c])
 go_cut [17] (fun v17 wc => ∃ (kq : Nat) (P_ : Bool), v17 = .bool P_ ∧ ah (bJ.j0 kq a1 P_ dh bU ay = some r) ∧ ah (kq ≤ k) ∧ ah (wc.heap[aae]? = some (.cells #[(.slice iY dh.length iZ), (.slice iU bU.length iV), (.slice gW ay.length fA)] 28 (0, 0))) ∧ ah (Below w.heap.size w wc))
 case first =>
  have H := P9.out
  clear P9
  replace H := bd H; obtain ⟨arG, A5, H⟩ := H; replace H := sb H
  rcases H with ⟨rfl, H⟩ | ⟨rfl, H⟩
  ·
   have H' := ak H; clear H
   have z7 := jW m_.out
   go_wp2_with (refine gB Tryz.func113 (fZ.calls (cu (Kd.aN oP.out HB.out)) pI.out A5.out) ?_; intro w8 hb; replace m_ := kb m_ hb; replace HB := bz HB hb; clear hb)
   go_meet
   case rel => exact ⟨_, _, rs, H', ⟨Jq⟩, ⟨ub m_.out⟩, ⟨bb⟩⟩
  ·
   have H' := ak H; clear H
   have z9 := jW m_.out
   go_wp2_with (refine gB Tryz.func113 (fZ.calls (cu (Kd.aN oP.out HB.out)) pI.out A5.out) ?_; intro w10 hb; replace m_ := kb m_ hb; replace HB := bz HB hb; clear hb)
   go_meet
   case rel => exact ⟨_, _, rs, H', ⟨Jq⟩, ⟨ub m_.out⟩, ⟨bb⟩⟩
 case rest =>
  clear P9
  obtain ⟨kq, P_, rfl, HA, HJ2, m_, HB⟩ := hcut
  cases kq with
  | zero => exact zz HA.out
  | succ ZQ =>
   obtain ⟨H⟩ := HA
   simp only [bJ.j0] at H
   replace H := sb H
   rcases H with ⟨rfl, H⟩ | ⟨rfl, H⟩
   ·
    obtain rfl := s1 H
    go_wp2
    go_ret
    exact ⟨er, bb⟩
   ·
    replace H := bd H
    obtain ⟨⟨anf, aF0⟩, A12, H⟩ := H
    (try dsimp only at H)
    replace H := sb H
    rcases H with ⟨rfl, H⟩ | ⟨rfl, H⟩
    ·
     have ang := ak H
     clear H
     have z15 := jW m_.out
     go_upto_region 6 with (refine gB Tryz.func108 (jX.calls (cu (Kd.aN oP.out HB.out)) pI.out A12.out) ?_; intro w16 hb; replace m_ := kb m_ hb; replace HB := bz HB hb; clear hb)
     (try simp only [Act.put, qQ, qR, l_c])
     go_cut [50] (fun v50 wc => ∃ (kq : Nat) (Ym : Bool), v50 = .bool Ym ∧ ah (bJ.j1 kq a1 anf Ym dh bU ay = some r) ∧ ah (kq ≤ ZQ) ∧ ah (wc.heap[aae]? = some (.cells #[(.slice iY dh.length iZ), (.slice iU bU.length iV), (.slice gW ay.length fA)] 28 (0, 0))) ∧ ah (Below w.heap.size w wc))
     case first =>
      have H := ang.out
      clear ang
      replace H := sp H
      rcases H with ⟨c17, H⟩ | ⟨c17, H⟩
      ·
       have tJ : decide (0 < (bU.length : Int)) = true := decide_eq_true c17
       have NM : decide (0 < bU.length) = true := decide_eq_true (by omega)
       clear c17
       (first | rw [tJ] | (simp only [dP, fG]; rw [tJ]) | skip)
       have H' := ak H; clear H
       have z18 := jW m_.out
       go_wp2
       go_meet
       case rel => exact ⟨_, _, rs, H', ⟨kl⟩, ⟨ub m_.out⟩, ⟨bb⟩⟩
      ·
       have tJ : decide (0 < (bU.length : Int)) = false := decide_eq_false c17
       have NM : decide (0 < bU.length) = false := decide_eq_false (by omega)
       clear c17
       (first | rw [tJ] | (simp only [dP, fG]; rw [tJ]) | skip)
       replace H := sp H
       rcases H with ⟨c19, H⟩ | ⟨c19, H⟩
       ·
        have Aw := decide_eq_true c19
        have Ew : decide (ay.length < 1) = true := decide_eq_true (by omega)
        clear c19
        have H' := ak H; clear H
        have z20 := jW m_.out
        go_wp2
        go_meet
        case rel => exact ⟨_, _, rs, H', ⟨kl⟩, ⟨ub m_.out⟩, ⟨bb⟩⟩
       ·
        have Aw := decide_eq_false c19
        have Ew : decide (ay.length < 1) = false := decide_eq_false (by omega)
        clear c19
        have H' := ak H; clear H
        have z21 := jW m_.out
        go_wp2
        go_meet
        case rel => exact ⟨_, _, rs, H', ⟨kl⟩, ⟨ub m_.out⟩, ⟨bb⟩⟩
     case rest =>
      clear ang
      obtain ⟨kq, Ym, rfl, HA, acv, m_, HB⟩ := hcut
      cases kq with
      | zero => exact zz HA.out
      | succ arH =>
       obtain ⟨H⟩ := HA
       simp only [bJ.j1] at H
       replace H := sb H
       rcases H with ⟨rfl, H⟩ | ⟨rfl, H⟩
       ·
        obtain rfl := s1 H
        go_wp2
        go_ret
        exact ⟨er, bb⟩
       ·
        have H' := ak H; clear H
        go_wp2
        go_loopg [7] arH (fun kq v7 w' => ∃ (pX : Int), v7 = .int .i64 pX ∧ ah (bJ.l0 kq a1 anf pX dh bU ay = some r) ∧ ah (kq ≤ arH) ∧ ah (w'.heap[aae]? = some (.cells #[(.slice iY dh.length iZ), (.slice iU bU.length iV), (.slice gW ay.length fA)] 28 (0, 0))) ∧ ah (Below w.heap.size w w'))
        case atStart => exact ⟨_, rs, H', ⟨Nat.le_refl _⟩, ⟨ub m_.out⟩, ⟨bb⟩⟩
        case round =>
         clear H'
         obtain ⟨pX, rfl, HA, Zp, m_, HB⟩ := hrel
         cases gk with
         | zero => exact zz HA.out
         | succ k3 =>
          obtain ⟨H⟩ := HA
          simp only [bJ.l0] at H
          replace H := sd H
          rcases H with ⟨zh, H⟩ | ⟨zh, H⟩
          ·
           replace H := oL H; obtain ⟨NS, H⟩ := H; replace H := bd H; obtain ⟨arE, Ya, H⟩ := H; replace H := sb H
           rcases H with ⟨rfl, H⟩ | ⟨rfl, H⟩
           ·
            replace H := bd H; obtain ⟨Yl, A27, H⟩ := H
            have H' := ak H; clear H
            have aKa := jW m_.out
            have Wy := zi pX
            have WA := zj pX ay.length
            obtain ⟨ad9, anh, ani, anj, ank, anl, anm, ano, GL, GN, GR, JY, JZ, J3, J4, J5, J6⟩ := yB jh.out pX Wy WA
            cases ano
            replace GL := cl HB.out GL
            replace GN := cl HB.out GN
            replace GR := cl HB.out GR
            have UG := ak JZ
            have UH := ak JY
            clear JZ JY
            have UJ := ak J4
            have UK := ak J3
            clear J4 J3
            have UL := ak J6
            have UM := ak J5
            clear J6 J5
            replace Wy := eq_true Wy
            replace WA := eq_true WA
            go_wp2_with (first | (refine gB Tryz.func72 (ih k3 (by have := HJ2.out; have := acv.out; have := Zp.out; omega) _ _ ((bg ay pX).f0) _ _ ((bg ay pX).f1) _ _ ((bg ay pX).f2) (wrap64 (a1 - 1)) true _ (cu (Kd.aN UG.out HB.out)) UH.out (cu (Kd.aN UJ.out HB.out)) UK.out (cu (Kd.aN UL.out HB.out)) UM.out Ya.out) ?_; intro w29 hb; replace m_ := kb m_ hb; replace HB := bz HB hb; clear hb; have z30 := jW m_.out; have ahs : 0 ≤ (pX : Int) := of_decide_eq_true (by assumption); have aht : pX < (ay.length : Int) := of_decide_eq_true (by assumption); obtain ⟨arI, ayW, ayX, ayY, ayZ, ay0, ay1, ay2, O6, O7, O8, aaf, aag, aah, aai, aaj, aak⟩ := yB jh.out pX ahs aht; obtain rfl : ad9 = arI := (by injection ay2); replace O6 := (HB.out.cell (World.block_lt_of_cell? w _ O6)).trans O6; replace O7 := (HB.out.cell (World.block_lt_of_cell? w _ O7)).trans O7; replace O8 := (HB.out.cell (World.block_lt_of_cell? w _ O8)).trans O8; have ahu := ak aag; have ahv := ak aaf; clear aag aaf; have ahw := ak aai; have ahx := ak aah; clear aai aah; have ahy := ak aak; have ahz := ak aaj; clear aak aaj; replace ahs := eq_true ahs; replace aht := eq_true aht) | (refine gV Tryz.func67 (jm.calls k3 _ _ ((bg ay pX).f0) _ _ ((bg ay pX).f1) _ _ ((bg ay pX).f2) Yl _ (cu (Kd.aN ahu.out HB.out)) ahv.out (cu (Kd.aN ahw.out HB.out)) ahx.out (cu (Kd.aN ahy.out HB.out)) ahz.out A27.out) ?_; rintro ay3 w31 ⟨ho0, hb⟩; have arJ := ak (Kd.aC ho0 (aj bb)); replace m_ := kb m_ hb; replace HB := bz HB hb; clear hb; (try clear ho0)))
            go_loopg [9] k3 (fun kq v9 w' => ∃ (UN : Int), v9 = .int .i64 UN ∧ ah (bJ.l1 kq a1 anf pX Yl UN dh bU ay = some r) ∧ ah (kq ≤ k3) ∧ ah (Kd.R Kd.string 9 w' w.heap.size (fun _ => True) ay3 Yl) ∧ ah (w'.heap[aae]? = some (.cells #[(.slice iY dh.length iZ), (.slice iU bU.length iV), (.slice (some ad9) ay.length fA)] 28 (0, 0))) ∧ ah (Below w.heap.size w w'))
            case atStart => exact ⟨_, rs, H', ⟨Nat.le_refl _⟩, ⟨ur arJ.out⟩, ⟨ub m_.out⟩, ⟨bb⟩⟩
            case round =>
             clear H'
             try clear zh
             try clear NS
             try clear GL
             try clear GN
             try clear GR
             try clear O6
             try clear O7
             try clear O8
             try clear Wy
             try clear ahs
             try clear WA
             try clear aht
             obtain ⟨UN, rfl, HA, HK4, acw, m_, HB⟩ := hrel
             cases gk with
             | zero => exact zz HA.out
             | succ k4 =>
              obtain ⟨H⟩ := HA
              simp only [bJ.l1] at H
              replace H := sd H
              rcases H with ⟨V_, H⟩ | ⟨V_, H⟩
              ·
               replace H := oL H; obtain ⟨SI, H⟩ := H; replace H := bd H; obtain ⟨arF, A34, H⟩ := H; replace H := sb H
               rcases H with ⟨rfl, H⟩ | ⟨rfl, H⟩
               ·
                obtain rfl := s1 H
                obtain ⟨arK, arL, anp⟩ := Kd.aV acw.out
                subst anp
                have Yn := zi UN
                have Yo := zj UN Yl.length
                obtain ⟨arM, anq, ahA⟩ := Kd.jZ (Kd.aH acw.out).2.2 UN Yn Yo
                cases anq
                replace Yn := eq_true Yn
                replace Yo := eq_true Yo
                go_wp2_with (refine gA Tryz.func115 (nV.calls A34.out) ?_; intro nd)
                go_ret
                exact ⟨er, bb⟩
               ·
                have H' := ak H; clear H
                obtain ⟨ag9, ag_, ach⟩ := Kd.aV acw.out
                subst ach
                have Yn := zi UN
                have Yo := zj UN Yl.length
                obtain ⟨arM, anq, ahA⟩ := Kd.jZ (Kd.aH acw.out).2.2 UN Yn Yo
                cases anq
                replace Yn := eq_true Yn
                replace Yo := eq_true Yo
                go_wp2_with (refine gA Tryz.func115 (nV.calls A34.out) ?_; intro nd)
                go_roundg k4
                case measure => have := HJ2.out; have := acv.out; have := Zp.out; have := HK4.out; omega
                case rel => exact ⟨_, rs, H', ⟨by have := HJ2.out; have := acv.out; have := Zp.out; have := HK4.out; omega⟩, ⟨ur acw.out⟩, ⟨ub m_.out⟩, ⟨bb⟩⟩
              ·
               have H' := ak H; clear H
               obtain ⟨aF1, aF2, ay4⟩ := Kd.aV acw.out
               subst ay4
               go_wp2
               go_roundg k4
               case measure => have := HJ2.out; have := acv.out; have := Zp.out; have := HK4.out; omega
               case rel => exact ⟨_, rs, H', ⟨by have := HJ2.out; have := acv.out; have := Zp.out; have := HK4.out; omega⟩, ⟨ub m_.out⟩, ⟨bb⟩⟩
           ·
            obtain rfl := s1 H
            have z39 := jW m_.out
            have Wy := zi pX
            have WA := zj pX ay.length
            obtain ⟨ad9, anh, ani, anj, ank, anl, anm, ano, GL, GN, GR, JY, JZ, J3, J4, J5, J6⟩ := yB jh.out pX Wy WA
            cases ano
            replace GL := cl HB.out GL
            replace GN := cl HB.out GN
            replace GR := cl HB.out GR
            have UG := ak JZ
            have UH := ak JY
            clear JZ JY
            have UJ := ak J4
            have UK := ak J3
            clear J4 J3
            have UL := ak J6
            have UM := ak J5
            clear J6 J5
            replace Wy := eq_true Wy
            replace WA := eq_true WA
            go_wp2_with (refine gB Tryz.func72 (ih k3 (by have := HJ2.out; have := acv.out; have := Zp.out; omega) _ _ ((bg ay pX).f0) _ _ ((bg ay pX).f1) _ _ ((bg ay pX).f2) (wrap64 (a1 - 1)) false _ (cu (Kd.aN UG.out HB.out)) UH.out (cu (Kd.aN UJ.out HB.out)) UK.out (cu (Kd.aN UL.out HB.out)) UM.out Ya.out) ?_; intro w40 hb; replace m_ := kb m_ hb; replace HB := bz HB hb; clear hb)
            go_ret
            exact ⟨er, bb⟩
          ·
           obtain rfl := s1 H
           have aKb := jW m_.out
           go_wp2
           go_ret
           exact ⟨er, bb⟩
    ·
     replace H := sp H
     rcases H with ⟨c42, H⟩ | ⟨c42, H⟩
     ·
      have arN := beq_iff_eq.mpr c42
      have arO := bne_eq_false_iff_eq.mpr c42
      clear c42
      replace H := bd H; obtain ⟨arD, A43, H⟩ := H
      obtain rfl := s1 H
      have aKc := jW m_.out
      go_wp2_with (first | (refine gB Tryz.func108 (jX.calls (cu (Kd.aN oP.out HB.out)) pI.out A12.out) ?_; intro w45 hb; replace m_ := kb m_ hb; replace HB := bz HB hb; clear hb; have z46 := jW m_.out) | (go_at_call 114; refine mA (iH.calls (cu (Kd.aN rE.out HB.out)) uG.out A43.out) ?_; intro nd))
      go_ret
      exact ⟨er, bb⟩
     ·
      have arN := beq_eq_false_iff_ne.mpr c42
      have arO := bne_iff_ne.mpr c42
      have aCo : ¬ (ay = []) := fun h_ => c42 (by rw [h_]; rfl)
      obtain rfl := s1 H
      have z47 := jW m_.out
      go_wp2_with (refine gB Tryz.func108 (jX.calls (cu (Kd.aN oP.out HB.out)) pI.out A12.out) ?_; intro w48 hb; replace m_ := kb m_ hb; replace HB := bz HB hb; clear hb; have z49 := jW m_.out)
      go_ret
      exact ⟨er, bb⟩
def o_.f (k : Nat) (dh : List (gU)) (bU : List ByteArray) (ay : List (mY)) : Option (Bool) := (bJ.f k dh bU ay 3).bind fun anr => (some anr)
theorem o_.calls {k iZ iV fA : Nat} {iY iU gW : Option Addr} {dh : List (gU)} {bU : List ByteArray} {ay : List (mY)} {r : Bool} {w : World} (lW : Kd.C qj w iY dh.length dh) (lX : dh.length ≤ iZ) (lY : Kd.C Kd.string w iU bU.length bU) (lZ : bU.length ≤ iV) (jG : Kd.C k28 w gW ay.length ay) (jH : ay.length ≤ fA) (h : o_.f k dh bU ay = some r) :
  Calls Tryz.prog 30 #[.agg #[.slice iY dh.length iZ, .slice iU bU.length iV, .slice gW ay.length fA]] w fun e w' => e = .returned (.bool r) ∧ Below w.heap.size w w' := by
 have Dj := Tryz.underlying28
 have oP := ak lW
 have pI := ak lX
 clear lW lX
 have rE := ak lY
 have uG := ak lZ
 clear lY lZ
 have jh := ak jG
 have lC := ak jH
 clear jG jH
 have HB := ak (Below.refl w.heap.size w)
 unfold o_.f at h; have H := h
 clear h
 replace H := bd H; obtain ⟨anr, A2, H⟩ := H
 obtain rfl := s1 H
 go_enter Tryz.func30, Tryz.ntmps30
 go_wp2_with (first | (refine bX HB 1 #[.slice iY dh.length iZ, .slice iU bU.length iV, .slice gW ay.length fA] 28 ?_; intro aCp w3 ad_ aCq hb; replace HB := bs HB hb; clear hb; have z4 := jW ad_.out) | (refine gB Tryz.func72 (bJ.calls k _ _ dh _ _ bU _ _ ay 3 anr _ (cu (Kd.aN oP.out HB.out)) pI.out (cu (Kd.aN rE.out HB.out)) uG.out (cu (Kd.aN jh.out HB.out)) lC.out A2.out) ?_; intro w5 hb; replace ad_ := kb ad_ hb; replace HB := bz HB hb; clear hb))
 go_ret
 exact ⟨er, bb⟩
mutual
def jr.l0 : Nat → Int → Int → List (gU) → List ByteArray → List (mY) → Option (Int)
 | 0, _, _, _, _, _ => none
 | k + 1, x3, x4, ahB, ahC, GU => if x4 < (GU.length : Int) then (if 0 ≤ x4 then ((jr.f k ((bg GU x4).f0) ((bg GU x4).f1) ((bg GU x4).f2)).bind fun ant => (jr.l0 k (wrap64 (x3 + ant)) (wrap64 (x4 + 1)) ahB ahC GU)) else (none)) else (if (GU.length : Int) = 0 then (some 1) else (some x3))
def jr.f : Nat → List (gU) → List ByteArray → List (mY) → Option (Int)
 | 0, _, _, _ => none
 | k + 1, dh, bU, ay => jr.l0 k 0 0 dh bU ay
end
theorem jr.calls (k : Nat) : ∀ (iY : Option Addr) (iZ : Nat) (dh : List (gU)) (iU : Option Addr) (iV : Nat) (bU : List ByteArray) (gW : Option Addr) (fA : Nat) (ay : List (mY)) (r : Int) (w : World) (lW : Kd.C qj w iY dh.length dh) (lX : dh.length ≤ iZ) (lY : Kd.C Kd.string w iU bU.length bU) (lZ : bU.length ≤ iV) (jG : Kd.C k28 w gW ay.length ay) (jH : ay.length ≤ fA) (h : jr.f k dh bU ay = some r),
  Calls Tryz.prog 77 #[.agg #[.slice iY dh.length iZ, .slice iU bU.length iV, .slice gW ay.length fA]] w fun e w' => e = .returned (.int .i64 r) ∧ Below w.heap.size w w' := by
 induction k using Nat.strongRecOn with
 | _ k ih =>
 intro iY iZ dh iU iV bU gW fA ay r w lW lX lY lZ jG jH h
 cases k with
 | zero => exact absurd h (by simp [jr.f])
 | succ k =>
 simp only [jr.f] at h
 have Dj := Tryz.underlying28
 have oP := ak lW
 have pI := ak lX
 clear lW lX
 have rE := ak lY
 have uG := ak lZ
 clear lY lZ
 have jh := ak jG
 have lC := ak jH
 clear jG jH
 have HB := ak (Below.refl w.heap.size w)
 have H := h
 clear h
 have H' := ak H; clear H
 go_enter Tryz.func77, Tryz.ntmps77
 go_wp2_with (refine bX HB 1 #[.slice iY dh.length iZ, .slice iU bU.length iV, .slice gW ay.length fA] 28 ?_; intro arP w2 NW aCr hb; replace HB := bs HB hb; clear hb)
 go_loopg [3, 4] k (fun kq v3 v4 w' => ∃ (dM : Int) (dV : Int), v3 = .int .i64 dM ∧ v4 = .int .i64 dV ∧ ah (jr.l0 kq dM dV dh bU ay = some r) ∧ ah (kq ≤ k) ∧ ah (w'.heap[arP]? = some (.cells #[(.slice iY dh.length iZ), (.slice iU bU.length iV), (.slice gW ay.length fA)] 28 (0, 0))) ∧ ah (Below w.heap.size w w'))
 case atStart => exact ⟨_, _, rs, rs, H', ⟨Nat.le_refl _⟩, ⟨ub NW.out⟩, ⟨bb⟩⟩
 case round =>
  clear H'
  obtain ⟨dM, dV, rfl, rfl, HA, xG, NW, HB⟩ := hrel
  cases gk with
  | zero => exact zz HA.out
  | succ k1 =>
   obtain ⟨H⟩ := HA
   simp only [jr.l0] at H
   replace H := sd H
   rcases H with ⟨iO, H⟩ | ⟨iO, H⟩
   ·
    replace H := oL H; obtain ⟨su, H⟩ := H; replace H := bd H; obtain ⟨ant, A5, H⟩ := H
    have H' := ak H; clear H
    have z6 := jW NW.out
    have anu := zi dV
    have anv := zj dV ay.length
    obtain ⟨aCs, ay5, ay6, ay7, ay8, ay9, ay_, aza, aal, aam, aan, aao, aap, aaq, aar, aas, aat⟩ := yB jh.out dV anu anv
    cases aza
    replace aal := cl HB.out aal
    replace aam := cl HB.out aam
    replace aan := cl HB.out aan
    have ahD := ak aap
    have ahE := ak aao
    clear aap aao
    have ahF := ak aar
    have ahG := ak aaq
    clear aar aaq
    have ahH := ak aat
    have ahI := ak aas
    clear aat aas
    replace anu := eq_true anu
    replace anv := eq_true anv
    go_wp2_with (refine gB Tryz.func77 (ih k1 (by have := xG.out; omega) _ _ ((bg ay dV).f0) _ _ ((bg ay dV).f1) _ _ ((bg ay dV).f2) ant _ (cu (Kd.aN ahD.out HB.out)) ahE.out (cu (Kd.aN ahF.out HB.out)) ahG.out (cu (Kd.aN ahH.out HB.out)) ahI.out A5.out) ?_; intro w7 hb; replace NW := kb NW hb; replace HB := bz HB hb; clear hb)
    go_roundg k1
    case measure => exact kl
    case rel => exact ⟨_, _, rs, rs, H', ⟨kl⟩, ⟨ub NW.out⟩, ⟨bb⟩⟩
   ·
    replace H := sp H
    rcases H with ⟨c8, H⟩ | ⟨c8, H⟩
    ·
     have tu := beq_iff_eq.mpr c8
     have Dl := bne_eq_false_iff_eq.mpr c8
     clear c8
     obtain rfl := s1 H
     have z9 := jW NW.out
     go_wp2
     go_ret
     exact ⟨er, bb⟩
    ·
     have tu := beq_eq_false_iff_ne.mpr c8
     have Dl := bne_iff_ne.mpr c8
     have anw : ¬ (ay = []) := fun h_ => c8 (by rw [h_]; rfl)
     obtain rfl := s1 H
     have z10 := jW NW.out
     go_wp2
     go_ret
     exact ⟨er, bb⟩
def lK.f (k : Nat) (dh : List (gU)) (bU : List ByteArray) (ay : List (mY)) : Option (Int) := (o_.f k dh bU ay).bind fun arQ => (if arQ = true then ((jr.f k dh bU ay).bind fun anx => (some anx)) else (some 0))
theorem lK.calls {k iZ iV fA : Nat} {iY iU gW : Option Addr} {dh : List (gU)} {bU : List ByteArray} {ay : List (mY)} {r : Int} {w : World} (lW : Kd.C qj w iY dh.length dh) (lX : dh.length ≤ iZ) (lY : Kd.C Kd.string w iU bU.length bU) (lZ : bU.length ≤ iV) (jG : Kd.C k28 w gW ay.length ay) (jH : ay.length ≤ fA) (h : lK.f k dh bU ay = some r) :
  Calls Tryz.prog 33 #[.agg #[.slice iY dh.length iZ, .slice iU bU.length iV, .slice gW ay.length fA]] w fun e w' => e = .returned (.int .i64 r) ∧ Below w.heap.size w w' := by
 have Dj := Tryz.underlying28
 have oP := ak lW
 have pI := ak lX
 clear lW lX
 have rE := ak lY
 have uG := ak lZ
 clear lY lZ
 have jh := ak jG
 have lC := ak jH
 clear jG jH
 have HB := ak (Below.refl w.heap.size w)
 unfold lK.f at h; have H := h
 clear h
 replace H := bd H; obtain ⟨arQ, A2, H⟩ := H; replace H := sb H
 rcases H with ⟨rfl, H⟩ | ⟨rfl, H⟩
 ·
  replace H := bd H; obtain ⟨anx, A4, H⟩ := H
  obtain rfl := s1 H
  go_enter Tryz.func33, Tryz.ntmps33
  go_wp2_with (first | (refine bX HB 1 #[.slice iY dh.length iZ, .slice iU bU.length iV, .slice gW ay.length fA] 28 ?_; intro arR w5 Ig arS hb; replace HB := bs HB hb; clear hb; have z6 := jW Ig.out) | (refine gB Tryz.func30 (o_.calls (cu (Kd.aN oP.out HB.out)) pI.out (cu (Kd.aN rE.out HB.out)) uG.out (cu (Kd.aN jh.out HB.out)) lC.out A2.out) ?_; intro w7 hb; replace Ig := kb Ig hb; replace HB := bz HB hb; clear hb; have z8 := jW Ig.out) | (refine gB Tryz.func77 (jr.calls k _ _ dh _ _ bU _ _ ay anx _ (cu (Kd.aN oP.out HB.out)) pI.out (cu (Kd.aN rE.out HB.out)) uG.out (cu (Kd.aN jh.out HB.out)) lC.out A4.out) ?_; intro w9 hb; replace Ig := kb Ig hb; replace HB := bz HB hb; clear hb))
  go_ret
  exact ⟨er, bb⟩
 ·
  obtain rfl := s1 H
  go_enter Tryz.func33, Tryz.ntmps33
  go_wp2_with (first | (refine bX HB 1 #[.slice iY dh.length iZ, .slice iU bU.length iV, .slice gW ay.length fA] 28 ?_; intro arR w10 Ig arS hb; replace HB := bs HB hb; clear hb; have z11 := jW Ig.out) | (refine gB Tryz.func30 (o_.calls (cu (Kd.aN oP.out HB.out)) pI.out (cu (Kd.aN rE.out HB.out)) uG.out (cu (Kd.aN jh.out HB.out)) lC.out A2.out) ?_; intro w12 hb; replace Ig := kb Ig hb; replace HB := bz HB hb; clear hb))
  go_ret
  exact ⟨er, bb⟩
end Go.Proofs.YtncdadcmghglkaaGreatDoor.PFnKidValid
