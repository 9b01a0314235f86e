/- Printed walks; conditions: those in each statement. -/
import Derived.Test.YtncdadcmghglkaaGreatDoorVFnPartLinesQt
import Derived.Test.YtncdadcmghglkaaGreatDoorVFnPartLinesYt
import Derived.Test.YtncdadcmghglkaaGreatDoorPFnPartLinesx0
import Derived.Test.YtncdadcmghglkaaGreatDoorPFnPartLinesx12
import Derived.Test.YtncdadcmghglkaaGreatDoorPFnPartLinesx18
-- short
-- dense
-- sq
-- sq2
namespace Go.Proofs.YtncdadcmghglkaaGreatDoor.PFnPartLines
open Go.RowKit Go.Proofs.YtncdadcmghglkaaGreatDoor.X Go.Proofs.YtncdadcmghglkaaGreatDoorW.bI Go.Proofs.YtncdadcmghglkaaGreatDoorW.iy Go.Proofs.YtncdadcmghglkaaGreatDoorW.iZ
attribute [local go_sem] kZ lg nK nM jW jX lq lu   -- for this text's walks alone
set_option linter.unusedVariables false
set_option maxHeartbeats 8000000
set_option maxRecDepth 100000
set_option linter.unusedSimpArgs false
mutual
def aG.j0 : Nat → Int → List ByteArray → Bool → List (gX) → List ByteArray → List (nG) → Option (List ByteArray × Bool)
 | 0, _, _, _, _, _, _ => none
 | k + 1, x1, x6, x27, Jg, zJ, yB => if x27 = true then (some (([] : List ByteArray), false)) else (if x6.length < 8796093022208 then ((some (x6 ++ [(⟨#[]⟩ : ByteArray)] : List ByteArray)).bind fun Jh => ((kJ.f k Jg zJ yB).bind fun Zr => (if Zr.2 = true then (if (zJ.length : Int) > 0 then (aG.j1 k x1 Jh Zr.1 true Jg zJ yB) else (if (yB.length : Int) < 1 then (aG.j1 k x1 Jh Zr.1 true Jg zJ yB) else (aG.j1 k x1 Jh Zr.1 (decide ((yB.length : Int) > 4)) Jg zJ yB))) else (if Jh.length + zJ.length < 8796093022208 then ((some (Jh ++ zJ : List ByteArray)).bind fun amh => (if (yB.length : Int) = 0 then ((qo.f k zJ 30).bind fun arA => (some (amh, arA))) else (some (amh, false)))) else (none))))) else (none))
def aG.j1 : Nat → Int → List ByteArray → ByteArray → Bool → List (gX) → List ByteArray → List (nG) → Option (List ByteArray × Bool)
 | 0, _, _, _, _, _, _, _ => none
 | k + 1, x1, x6, x8, x66, Jg, zJ, yB => if x66 = true then (some (([] : List ByteArray), false)) else (aG.l0 k x1 x6 x8 (([] : List (List ByteArray))) yB (yB.length : Int) 0)
def aG.l0 : Nat → Int → List ByteArray → ByteArray → List (List ByteArray) → List (nG) → Int → Int → Option (List ByteArray × Bool)
 | 0, _, _, _, _, _, _, _ => none
 | k + 1, x1, x6, x8, x10, x69, x70, x71 => if x71 < x70 then (if 0 ≤ x71 then (if x71 < (x69.length : Int) then ((aG.f k ((cO x69 x71).f0) ((cO x69 x71).f1) ((cO x69 x71).f2) (wrap64 (x1 - 1))).bind fun ai5 => (if ai5.2 = true then (if x10.length < 5864062014805 then (aG.l0 k x1 x6 x8 (x10 ++ [ai5.1]) x69 x70 (wrap64 (x71 + 1))) else (none)) else (some (([] : List ByteArray), false)))) else (none)) else (none)) else ((fE.f k x10 x8).bind fun adV => (if x6.length + adV.1.length < 8796093022208 then (some ((x6 ++ adV.1), adV.2)) else (none)))
def aG.f : Nat → List (gX) → List ByteArray → List (nG) → Int → Option (List ByteArray × Bool)
 | 0, _, _, _, _ => none
 | k + 1, dY, dK, aH, a1 => (fG.f k dY).bind fun adW => (if adW.2 = true then (aG.j0 k a1 adW.1 (a1 == 0) dY dK aH) else (aG.j0 k a1 adW.1 true dY dK aH))
end
def aG.T7 : Bool × List (List Nat × List Nat) := (true, [([], []), ([], []), ([1], [1]), ([0, 2], [0, 2]), ([], []), ([4], [4]), ([5], [5]), ([6], [6]), ([7, 3], [7]), ([8], [8]), ([9, 8], [8, 9]), ([10, 8, 8], [8, 10]), ([8, 11], [8, 11]), ([3, 11, 0, 1, 2, 3], [3]), ([12, 13, 0, 1, 2, 3, 4, 5, 6, 7, 8, 9, 10, 11, 12, 13], [12])])
def aG.B7 : List Nat := [0, 0, 2, 7, 0, 16, 48, 112, 255, 511, 1023, 2047, 4095, 4095, 16383]
theorem aG.arB : rU .any (opsOf Tryz.f66 7) = aG.T7 := by kernel_rfl
theorem aG.ai6 : nD aG.T7.2 aG.B7 = true := by kernel_rfl
theorem aG.calls (k : Nat) : ∀ (jO : Option Addr) (jP : Nat) (dY : List (gX)) (jJ : Option Addr) (jK : Nat) (dK : List ByteArray) (iP : Option Addr) (f_ : Nat) (aH : List (nG)) (a1 : Int) (r1 : List ByteArray) (r2 : Bool) (w : World) (oW : Kd.C qI w jO dY.length dY) (oZ : dY.length ≤ jP) (o7 : Kd.C Kd.string w jJ dK.length dK) (o8 : dK.length ≤ jK) (kS : Kd.C k28 w iP aH.length aH) (kT : aH.length ≤ f_) (CB : MaxOk w) (h : aG.f k dY dK aH a1 = some (r1, r2)),
  Calls Tryz.prog 66 #[.agg #[.slice jO dY.length jP, .slice jJ dK.length jK, .slice iP aH.length f_], .int .i64 a1] w fun e w' => ∃ oV : Value, e = .returned (.tuple #[oV, .bool r2]) ∧ Kd.R Kd.string 9 w' w.heap.size (fun _ => True) oV r1 ∧ Below w.heap.size w w' := by
 induction k using Nat.strongRecOn with
 | _ k ih =>
 intro jO jP dY jJ jK dK iP f_ aH a1 r1 r2 w oW oZ o7 o8 kS kT CB h
 cases k with
 | zero => exact absurd h (by simp [aG.f])
 | succ k =>
 simp only [aG.f] at h
 have EH := Tryz.underlying28
 have qB := ak oW
 have qQ := ak oZ
 clear oW oZ
 have tZ := ak o7
 have wP := ak o8
 clear o7 o8
 have jD := ak kS
 have mQ := ak kT
 clear kS kT
 have HG := ak CB
 clear CB
 have HB := ak (Below.refl w.heap.size w)
 have H := h
 clear h
 replace H := bd H
 obtain ⟨⟨adX, aFf⟩, A3, H⟩ := H
 (try dsimp only at H)
 have HC4 := ak H
 clear H
 go_enter Tryz.func66, Tryz.ntmps66
 go_upto_region 2 with (first | (refine gG 2 ?_; refine bX HB 2 #[.slice jO dY.length jP, .slice jJ dK.length jK, .slice iP aH.length f_] 28 ?_; intro zF w5 gW aBz hb; replace HB := bs HB hb; clear hb; have z6 := kK gW.out) | (refine gV Tryz.func39 (fG.calls (cu (Kd.bf qB.out HB.out)) qQ.out A3.out) ?_; rintro agK w7 ⟨ho0, hb⟩; have ai7 := ak (Kd.aC ho0 (aj bb)); replace gW := kb gW hb; replace HB := bz HB hb; clear hb; (try clear ho0)))
 (try simp only [Act.put, yT, yU, l_c])
 go_cut [27] (fun v27 wc => ∃ (kq : Nat) (adY : Bool), v27 = .bool adY ∧ ah (aG.j0 kq a1 adX adY dY dK aH = some (r1, r2)) ∧ ah (kq ≤ k) ∧ ah (Kd.R Kd.string 9 wc w.heap.size (fun _ => True) agK adX) ∧ ah (wc.heap[zF]? = some (.cells #[(.slice jO dY.length jP), (.slice jJ dK.length jK), (.slice iP aH.length f_)] 28 (0, 0))) ∧ ah (Below w.heap.size w wc))
 case first =>
  have H := HC4.out
  clear HC4
  replace H := sb H
  rcases H with ⟨rfl, H⟩ | ⟨rfl, H⟩
  ·
   have H' := ak H; clear H
   go_wp2
   go_meet
   case rel => exact ⟨_, _, rs, H', ⟨IL⟩, ⟨ur ai7.out⟩, ⟨ub gW.out⟩, ⟨bb⟩⟩
  ·
   have H' := ak H; clear H
   go_wp2
   go_meet
   case rel => exact ⟨_, _, rs, H', ⟨IL⟩, ⟨ur ai7.out⟩, ⟨ub gW.out⟩, ⟨bb⟩⟩
 case rest =>
  clear HC4
  obtain ⟨kq, adY, rfl, HA, HJ3, jg, gW, HB⟩ := hcut
  cases kq with
  | zero => exact zz HA.out
  | succ kj3 =>
   obtain ⟨H⟩ := HA
   simp only [aG.j0] at H
   replace H := sb H
   rcases H with ⟨rfl, H⟩ | ⟨rfl, H⟩
   ·
    obtain ⟨rfl, rfl⟩ := s2 H
    go_wp2
    go_ret2
    exact ⟨_, er, nx, bb⟩
   ·
    replace H := nl H; obtain ⟨Vx, H⟩ := H
    replace H := ny H
    obtain ⟨Jh, adZ, H⟩ := H
    replace H := bd H
    obtain ⟨⟨arC, aFg⟩, Zg, H⟩ := H
    (try dsimp only at H)
    replace H := sb H
    rcases H with ⟨rfl, H⟩ | ⟨rfl, H⟩
    ·
     have ami := ak H
     clear H
     go_upto_region 8 with (first | ((with_reducible refine eu (b := .append) (xs := #[.tmp 28, .tmp 29]) rfl ?_); (try (refine lD (by rfl) ?_; dsimp only)); at_builtin; refine Kd.pV Kd.string (w0 := w) w.heap.size rfl (.tmp 28) (.tmp 29) 23 9 (.string ⟨#[]⟩) 16 rfl Tryz.underlying23 info9 rfl (by decide) (by omega) agK adX (⟨#[]⟩ : ByteArray) [.string (⟨#[]⟩ : ByteArray)] (fun _ => True) (fun _ => False) rfl rfl ?aP (fun _ hk => hk.elim) ?aF ?aO ?aB ?aS ?aL ?_; (case aP => exact rfl); (case aB => exact bb); (case aF => exact (fun _ _ => trivial)); (case aO => exact (ur jg.out)); (case aS => exact (aj bb)); (case aL => have := Vx.out; omega); intro Pq SS ho hb hg hat; rw [← adZ.out] at ho; have uM := ak (ho); replace gW := ak (cZ (g := zF) (o := .cells #[.slice jO dY.length jP, .slice jJ dK.length jK, .slice iP aH.length f_] 28 (0, 0)) (ub gW.out) hg (Kd.oG jg.out gW.out (by decide))); replace HB := ak (hb); clear ho hb hg hat jg; have z15 := kK gW.out) | (refine gB Tryz.func101 (kJ.calls (cu (Kd.bf qB.out HB.out)) qQ.out (cu (Kd.bf tZ.out HB.out)) wP.out (cu (Kd.bf jD.out HB.out)) mQ.out ?Ae Zg.out) ?_; (case Ae => first | exact HG.out | exact MaxOk.below HG.out bb | (repeat (first | exact HG.out | apply MaxOk.drewN | apply MaxOk.drew))); intro w16 hb; replace uM := rb uM hb; replace gW := kb gW hb; replace HB := bz HB hb; clear hb))
     (try simp only [Act.put, yT, yU, l_c])
     go_cut [66] (fun v66 wc => ∃ (kq : Nat) (XA : Bool), v66 = .bool XA ∧ ah (aG.j1 kq a1 Jh arC XA dY dK aH = some (r1, r2)) ∧ ah (kq ≤ kj3) ∧ ah (Kd.R Kd.string 9 wc w.heap.size (fun _ => True) Pq Jh) ∧ ah (wc.heap[zF]? = some (.cells #[(.slice jO dY.length jP), (.slice jJ dK.length jK), (.slice iP aH.length f_)] 28 (0, 0))) ∧ ah (Below w.heap.size w wc))
     case first =>
      have H := ami.out
      clear ami
      replace H := sp H
      rcases H with ⟨c17, H⟩ | ⟨c17, H⟩
      ·
       have sJ : decide (0 < (dK.length : Int)) = true := decide_eq_true c17
       have Nb : decide (0 < dK.length) = true := decide_eq_true (by omega)
       clear c17
       (first | rw [sJ] | (simp only [iK, jI]; rw [sJ]) | skip)
       have H' := ak H; clear H
       have z18 := kK gW.out
       go_wp2
       go_meet
       case rel => exact ⟨_, _, rs, H', ⟨kl⟩, ⟨ur uM.out⟩, ⟨ub gW.out⟩, ⟨bb⟩⟩
      ·
       have sJ : decide (0 < (dK.length : Int)) = false := decide_eq_false c17
       have Nb : decide (0 < dK.length) = false := decide_eq_false (by omega)
       clear c17
       (first | rw [sJ] | (simp only [iK, jI]; rw [sJ]) | skip)
       replace H := sp H
       rcases H with ⟨c19, H⟩ | ⟨c19, H⟩
       ·
        have z_ := decide_eq_true c19
        have Eb : decide (aH.length < 1) = true := decide_eq_true (by omega)
        clear c19
        have H' := ak H; clear H
        have z20 := kK gW.out
        go_wp2
        go_meet
        case rel => exact ⟨_, _, rs, H', ⟨kl⟩, ⟨ur uM.out⟩, ⟨ub gW.out⟩, ⟨bb⟩⟩
       ·
        have z_ := decide_eq_false c19
        have Eb : decide (aH.length < 1) = false := decide_eq_false (by omega)
        clear c19
        have H' := ak H; clear H
        have z21 := kK gW.out
        go_wp2
        go_meet
        case rel => exact ⟨_, _, rs, H', ⟨kl⟩, ⟨ur uM.out⟩, ⟨ub gW.out⟩, ⟨bb⟩⟩
     case rest =>
      clear ami
      obtain ⟨kq, XA, rfl, HA, ad1, jg, gW, HB⟩ := hcut
      cases kq with
      | zero => exact zz HA.out
      | succ arD =>
       obtain ⟨H⟩ := HA
       simp only [aG.j1] at H
       replace H := sb H
       rcases H with ⟨rfl, H⟩ | ⟨rfl, H⟩
       ·
        obtain ⟨rfl, rfl⟩ := s2 H
        go_wp2
        go_ret2
        exact ⟨_, er, nx, bb⟩
       ·
        obtain ⟨aFh, ad2⟩ := nm ([] : List (List ByteArray))
        rw [← ad2.out] at H
        have H' := ak H; clear H
        go_wp2_with ((with_reducible refine Vy (N := 67) rfl ?_); (try (refine lD (by rfl) ?_; dsimp only)); refine Kd.ai8 (Kd.slice 9 Kd.string) _ 23 ?hg (N := 67) ?hd (xs := ([] : List (List ByteArray))) (inner := []) (ok := fun _ => True) (vM := fun _ => True) ?hr ?hp (fun _ hk => hk) trivial (Below.refl _ _) (Nat.le_refl _) (by simp) ?_; (case hd => rfl); (case hg => rfl); (case hr => first | (go_simp; done) | (go_simp; rfl)); (case hp => exact (dh.none _ _)); intro aFi w23 TR hb CB vS; clear CB vS; (first | rw [← ad2.out] at TR | (simp only [Int.reduceToNat] at TR; rw [← ad2.out] at TR)); have arE := ak (Kd.Zt (Kd.ad3 TR (Kd.jh (ur jg.out))) (aj bb)); replace jg := rb jg hb; replace gW := kb gW hb; replace HB := bz HB hb; clear hb TR; have z25 := kK gW.out)
        go_loopg [10, 71] arD (fun kq v10 v71 w' => ∃ (Vz : List (List ByteArray)) (qK : Int), v71 = .int .i64 qK ∧ ah (aG.l0 kq a1 Jh arC Vz aH (aH.length : Int) qK = some (r1, r2)) ∧ ah (kq ≤ arD) ∧ ah (Kd.R Kd.string 9 w' w.heap.size (fun _ => True) Pq Jh) ∧ ah (Kd.S (Kd.slice 9 Kd.string) 23 w' w.heap.size (fun k_ => some k_ ≠ (Pq : Value).ownBlock) v10 Vz) ∧ ah (w'.heap[zF]? = some (.cells #[(.slice jO dY.length jP), (.slice jJ dK.length jK), (.slice iP aH.length f_)] 28 (0, 0))) ∧ ah (Below w.heap.size w w'))
        case atStart => exact ⟨_, _, rs, H', ⟨Nat.le_refl _⟩, ⟨ur jg.out⟩, ⟨by (with_reducible repeat (first | apply Kd.qY | apply Kd.qZ | apply Kd.uN)); exact Kd.DK arE.out (fun _ hk => hk.2)⟩, ⟨ub gW.out⟩, ⟨bb⟩⟩
        case round =>
         clear H'
         obtain ⟨Vz, qK, rfl, HA, Y4, jg, vI, gW, HB⟩ := hrel
         cases gk with
         | zero => exact zz HA.out
         | succ k3 =>
          obtain ⟨H⟩ := HA
          simp only [aG.l0] at H
          replace H := sd H
          rcases H with ⟨MW, H⟩ | ⟨MW, H⟩
          ·
           replace H := oq H; obtain ⟨EO, H⟩ := H; replace H := oq H; obtain ⟨EP, H⟩ := H; replace H := bd H
           obtain ⟨⟨abw, aFj⟩, A29, H⟩ := H
           (try dsimp only at H)
           replace H := sb H
           rcases H with ⟨rfl, H⟩ | ⟨rfl, H⟩
           ·
            replace H := nl H; obtain ⟨adi, H⟩ := H
            obtain ⟨aFk, ai9⟩ := nm (Vz ++ [abw])
            rw [← ai9.out] at H
            have H' := ak H; clear H
            have XB := zi qK
            have XC := zj qK aH.length
            obtain ⟨Zu, Ll, Lm, Lp, Lr, Ls, Lu, amj, Ji, Jj, Jk, Jl, Jm, Jo, Jp, Jq, Jr⟩ := EF jD.out qK XB XC
            cases amj
            replace Ji := cl HB.out Ji
            replace Jj := cl HB.out Jj
            replace Jk := cl HB.out Jk
            have TS := ak Jm
            have TT := ak Jl
            clear Jm Jl
            have TU := ak Jp
            have TV := ak Jo
            clear Jp Jo
            have TW := ak Jr
            have TY := ak Jq
            clear Jr Jq
            replace XB := eq_true XB
            replace XC := eq_true XC
            go_wp2_with (first | (refine gG 12 ?_; refine bY HB 12 #[.slice none 0 0, .slice none 0 0, .slice none 0 0] 28 ?_; intro Nc w32 Ec arF hg hb; have LC := Ba gW hg; have LD := Bc gW hg; replace jg := rb jg hb; replace vI := ak (Kd.Js (by (with_reducible repeat (first | apply Kd.qY | apply Kd.qZ | apply Kd.uN)); exact vI.out) hb); replace gW := kb gW hb; replace HB := bz HB hb; clear hb hg; have arG := LD.out; have arH := LC.out; have z34 := kK Ec.out) | (refine gV Tryz.func66 (ih k3 (by have := HJ3.out; have := ad1.out; have := Y4.out; omega) _ _ ((cO aH qK).f0) _ _ ((cO aH qK).f1) _ _ ((cO aH qK).f2) (wrap64 (a1 - 1)) abw true _ (Kd.bf TS.out bb) TT.out (Kd.bf TU.out bb) TV.out (Kd.bf TW.out bb) TY.out ?Ae A29.out) ?_; (case Ae => first | exact HG.out | exact MaxOk.below HG.out bb | (repeat (first | exact HG.out | apply MaxOk.drewN | apply MaxOk.drew))); rintro ayS w35 ⟨ho0, hb⟩; have VA := ak (Kd.aC (Kd.dR ho0 (Kd.jh (rh jg))) (aj bb)); replace jg := ak (Kd.bH (rh jg) (Kd.bZ ho0) hb); replace vI := ak (Kd.E8 (by (with_reducible repeat (first | apply Kd.qY | apply Kd.qZ | apply Kd.uN)); exact (Kd.DK (Kd.Rt (p := ⟨Nc, 2, none⟩) (Kd.Rt (p := ⟨Nc, 1, none⟩) (Kd.Rt (p := ⟨Nc, 0, none⟩) (Kd.S_ vI.out Ec.out (by decide)) (fun _ hk => hk.2) (.slice Ll ((cO aH qK).f0).length Lm)) (fun _ hk => hk.2) (.slice Lp ((cO aH qK).f1).length Lr)) (fun _ hk => hk.2) (.slice Ls ((cO aH qK).f2).length Lu)) (fun _ h_ => h_.1))) (Kd.bZ ho0) hb); replace gW := kp gW #[.slice jO dY.length jP, .slice jJ dK.length jK, .slice (some Zu) aH.length f_] hb; replace Ec := kp Ec #[.slice Ll ((cO aH qK).f0).length Lm, .slice Lp ((cO aH qK).f1).length Lr, .slice Ls ((cO aH qK).f2).length Lu] hb; replace HB := bz HB hb; clear hb; (try clear ho0); obtain ⟨agL, agM, abx⟩ := Kd.aI VA.out; subst abx) | ((with_reducible refine eu (b := .append) (xs := #[.tmp 84, .tmp 86]) rfl ?_); (try (refine lD (by rfl) ?_; dsimp only)); at_builtin; refine Kd.VB (Kd.slice 9 Kd.string) (w0 := w) w.heap.size rfl (.tmp 84) (.tmp 86) 65 23 (.slice none 0 0) 24 rfl Tryz.underlying65 info23 rfl (by decide) (by omega) u10 Vz abw [.slice agL abw.length agM] (fun k_ => some k_ ≠ (Pq : Value).ownBlock) (fun k_ => some k_ = (.slice agL abw.length agM : Value).ownBlock) rfl rfl ?aP (fun k_ hk_ => ((Kd.aY (ok' := fun k_ => ((fun k_ => some k_ ≠ (Pq : Value).ownBlock)) k_ ∧ some k_ ≠ (u10 : Value).ownBlock) (Kd.oK (VA.out) (Kd.F8 vI.out) (by decide)) (fun k_ hk => ⟨hk.1.2, hk.2⟩))).1 k_ hk_.symm) ?aF ?aO ?aB ?aS ?aL ?_; (case aP => exact Kd.ai_ (Kd.aY (Kd.Zv rfl (Kd.aY (ok' := fun k_ => ((fun k_ => some k_ ≠ (Pq : Value).ownBlock)) k_ ∧ some k_ ≠ (u10 : Value).ownBlock) (Kd.oK (VA.out) (Kd.F8 vI.out) (by decide)) (fun k_ hk => ⟨hk.1.2, hk.2⟩))) (fun _ h_ => h_))); (case aB => exact bb); (case aF => exact (fun k_ hk => Kd.fresh' (Kd.jh (ur jg.out)) k_ hk)); (case aO => exact (by (with_reducible repeat (first | apply Kd.qY | apply Kd.qZ | apply Kd.uN)); exact Kd.DK vI.out (fun k_ hk => ⟨hk.1, fun e_ => hk.2 e_⟩))); (case aS => exact (aj bb)); (case aL => have := adi.out; omega); intro aFl w36 ho hb hg hat; rw [← ai9.out] at ho; have arI := ak (ho); replace jg := ak (Kd.qc (ur jg.out) (Kd.F8 (by (with_reducible repeat (first | apply Kd.qY | apply Kd.qZ | apply Kd.uN)); exact vI.out)) (by decide) hg); replace gW := ak (cZ (g := zF) (o := .cells #[.slice jO dY.length jP, .slice jJ dK.length jK, .slice (some Zu) aH.length f_] 28 (0, 0)) (ub gW.out) hg (Kd.agb vI.out gW.out (by decide))); replace Ec := ak (cZ (g := Nc) (o := .cells #[.slice Ll ((cO aH qK).f0).length Lm, .slice Lp ((cO aH qK).f1).length Lr, .slice Ls ((cO aH qK).f2).length Lu] 28 (0, 0)) (ub Ec.out) hg (Kd.agb vI.out Ec.out (by decide))); replace HB := ak (hb); clear ho hb hg hat vI VA))
            go_roundg k3
            case measure => have := HJ3.out; have := ad1.out; have := Y4.out; omega
            case rel => exact ⟨_, _, rs, H', ⟨by have := HJ3.out; have := ad1.out; have := Y4.out; omega⟩, ⟨ur (Kd.aY jg.out (fun _ hk => trivial))⟩, ⟨by (with_reducible repeat (first | apply Kd.qY | apply Kd.qZ | apply Kd.uN)); exact arI.out⟩, ⟨ub gW.out⟩, ⟨bb⟩⟩
           ·
            obtain ⟨rfl, rfl⟩ := s2 H
            have XB := zi qK
            have XC := zj qK aH.length
            obtain ⟨Zu, Ll, Lm, Lp, Lr, Ls, Lu, amj, Ji, Jj, Jk, Jl, Jm, Jo, Jp, Jq, Jr⟩ := EF jD.out qK XB XC
            cases amj
            replace Ji := cl HB.out Ji
            replace Jj := cl HB.out Jj
            replace Jk := cl HB.out Jk
            have TS := ak Jm
            have TT := ak Jl
            clear Jm Jl
            have TU := ak Jp
            have TV := ak Jo
            clear Jp Jo
            have TW := ak Jr
            have TY := ak Jq
            clear Jr Jq
            replace XB := eq_true XB
            replace XC := eq_true XC
            go_wp2_with (first | (refine gG 12 ?_; refine bY HB 12 #[.slice none 0 0, .slice none 0 0, .slice none 0 0] 28 ?_; intro Nc w38 Ec arF hg hb; have LC := Ba gW hg; have LD := Bc gW hg; replace jg := rb jg hb; replace vI := ak (Kd.Js (by (with_reducible repeat (first | apply Kd.qY | apply Kd.qZ | apply Kd.uN)); exact vI.out) hb); replace gW := kb gW hb; replace HB := bz HB hb; clear hb hg; have aBA := LD.out; have aBB := LC.out; have z40 := kK Ec.out) | (refine gV Tryz.func66 (ih k3 (by have := HJ3.out; have := ad1.out; have := Y4.out; omega) _ _ ((cO aH qK).f0) _ _ ((cO aH qK).f1) _ _ ((cO aH qK).f2) (wrap64 (a1 - 1)) abw false _ (Kd.bf TS.out bb) TT.out (Kd.bf TU.out bb) TV.out (Kd.bf TW.out bb) TY.out ?Ae A29.out) ?_; (case Ae => first | exact HG.out | exact MaxOk.below HG.out bb | (repeat (first | exact HG.out | apply MaxOk.drewN | apply MaxOk.drew))); rintro ayS w41 ⟨ho0, hb⟩; have VA := ak (Kd.aC (Kd.dR ho0 (Kd.jh (rh jg))) (aj bb)); replace jg := ak (Kd.bH (rh jg) (Kd.bZ ho0) hb); replace vI := ak (Kd.E8 (by (with_reducible repeat (first | apply Kd.qY | apply Kd.qZ | apply Kd.uN)); exact (Kd.DK (Kd.Rt (p := ⟨Nc, 2, none⟩) (Kd.Rt (p := ⟨Nc, 1, none⟩) (Kd.Rt (p := ⟨Nc, 0, none⟩) (Kd.S_ vI.out Ec.out (by decide)) (fun _ hk => hk.2) (.slice Ll ((cO aH qK).f0).length Lm)) (fun _ hk => hk.2) (.slice Lp ((cO aH qK).f1).length Lr)) (fun _ hk => hk.2) (.slice Ls ((cO aH qK).f2).length Lu)) (fun _ h_ => h_.1))) (Kd.bZ ho0) hb); replace gW := kp gW #[.slice jO dY.length jP, .slice jJ dK.length jK, .slice (some Zu) aH.length f_] hb; replace Ec := kp Ec #[.slice Ll ((cO aH qK).f0).length Lm, .slice Lp ((cO aH qK).f1).length Lr, .slice Ls ((cO aH qK).f2).length Lu] hb; replace HB := bz HB hb; clear hb; (try clear ho0)))
            go_ret2
            exact ⟨_, er, nx, bb⟩
          ·
           replace H := bd H
           obtain ⟨⟨agN, aFm⟩, A42, H⟩ := H
           (try dsimp only at H)
           replace H := nl H; obtain ⟨arJ, H⟩ := H
           obtain ⟨aFo, aja⟩ := nm (Jh ++ agN)
           rw [← aja.out] at H
           obtain ⟨rfl, rfl⟩ := s2 H
           obtain ⟨aby, abz, VD⟩ := Kd.Zw vI.out
           subst VD
           go_wp2_with (first | (refine gV Tryz.func106 (fE.calls (cu ((Kd.Jt vI.out).2.2)) ((Kd.Jt vI.out).2.1) A42.out) ?_; rintro aFp w45 ⟨ho0, hb⟩; have VE := ak (Kd.aC (Kd.dR ho0 (Kd.jh (ur jg.out))) (aj bb)); replace jg := ak (Kd.bH (ur jg.out) (Kd.bZ ho0) hb); replace vI := ak (Kd.E8 (by (with_reducible repeat (first | apply Kd.qY | apply Kd.qZ | apply Kd.uN)); exact vI.out) (Kd.bZ ho0) hb); replace gW := kb gW hb; replace HB := bz HB hb; clear hb; (try clear ho0); obtain ⟨amk, aml, agO⟩ := Kd.aI VE.out; subst agO) | ((with_reducible refine eu (b := .append) (xs := #[.tmp 95, .tmp 96]) rfl ?_); (try (refine lD (by rfl) ?_; dsimp only)); at_builtin; refine Kd.ql Kd.string (w0 := w) w.heap.size rfl (.tmp 95) (.tmp 96) 23 9 (.string ⟨#[]⟩) 16 rfl Tryz.underlying23 info9 rfl (by decide) (by omega) Pq Jh agN _ _ _ (fun k_ => some k_ ≠ (.slice amk agN.length aml : Value).ownBlock) (fun _ => False) rfl rfl ?aO ?aR (fun _ _ h => h) (fun _ h => h.elim) ?aF ?aB ?aS ?aL ?_; (case aR => repeat (first | exact (Kd.ay VE.out).2.2 | (with_reducible refine Kd.ni ?_ _) | (with_reducible refine Kd.nC ?_ _) | (with_reducible refine Kd.pY ?_))); (case aB => exact bb); (case aF => exact (fun k_ hk => Kd.fresh' (Kd.jh (ur VE.out)) k_ hk)); (case aO => exact (ur (Kd.aY jg.out (fun _ hk => hk.2)))); (case aS => exact (aj bb)); (case aL => have := arJ.out; omega); intro aFq w46 ho hb hg hat; rw [← aja.out] at ho; have arK := ak (ho); replace vI := ak (Kd.Zx (ok := (fun k_ => some k_ ≠ (.slice amk agN.length aml : Value).ownBlock)) (by (with_reducible repeat (first | apply Kd.qY | apply Kd.qZ | apply Kd.uN)); exact Kd.DK vI.out (fun _ hk => ⟨hk.2, hk.1⟩)) hg hat); replace gW := ak (cZ (g := zF) (o := .cells #[.slice jO dY.length jP, .slice jJ dK.length jK, .slice iP aH.length f_] 28 (0, 0)) (ub gW.out) hg (Kd.oG jg.out gW.out (by decide))); replace VE := ak (Kd.zI (ok := (fun _ => True)) (ur VE.out) hg hat); replace HB := ak (hb); clear ho hb hg hat jg))
           go_ret2
           exact ⟨_, er, ur (Kd.aY arK.out (fun _ hk => trivial)), bb⟩
    ·
     replace H := nl H; obtain ⟨ajb, H⟩ := H
     replace H := ny H
     obtain ⟨amh, ajc, H⟩ := H
     replace H := sp H
     rcases H with ⟨c49, H⟩ | ⟨c49, H⟩
     ·
      have ajd := beq_iff_eq.mpr c49
      have aje := bne_eq_false_iff_eq.mpr c49
      clear c49
      replace H := bd H; obtain ⟨arA, A50, H⟩ := H
      obtain ⟨rfl, rfl⟩ := s2 H
      try go_wp2_with (first | ((with_reducible refine eu (b := .append) (xs := #[.tmp 28, .tmp 29]) rfl ?_); (try (refine lD (by rfl) ?_; dsimp only)); at_builtin; refine Kd.pV Kd.string (w0 := w) w.heap.size rfl (.tmp 28) (.tmp 29) 23 9 (.string ⟨#[]⟩) 16 rfl Tryz.underlying23 info9 rfl (by decide) (by omega) agK adX (⟨#[]⟩ : ByteArray) [.string (⟨#[]⟩ : ByteArray)] (fun _ => True) (fun _ => False) rfl rfl ?aP (fun _ hk => hk.elim) ?aF ?aO ?aB ?aS ?aL ?_; (case aP => exact rfl); (case aB => exact bb); (case aF => exact (fun _ _ => trivial)); (case aO => exact (ur jg.out)); (case aS => exact (aj bb)); (case aL => have := Vx.out; omega); intro Pq w51 ho hb hg hat; rw [← adZ.out] at ho; have uM := ak (ho); replace gW := ak (cZ (g := zF) (o := .cells #[.slice jO dY.length jP, .slice jJ dK.length jK, .slice iP aH.length f_] 28 (0, 0)) (ub gW.out) hg (Kd.oG jg.out gW.out (by decide))); replace HB := ak (hb); clear ho hb hg hat jg; have z52 := kK gW.out) | (refine gB Tryz.func101 (kJ.calls (cu (Kd.bf qB.out HB.out)) qQ.out (cu (Kd.bf tZ.out HB.out)) wP.out (cu (Kd.bf jD.out HB.out)) mQ.out ?Ae Zg.out) ?_; (case Ae => first | exact HG.out | exact MaxOk.below HG.out bb | (repeat (first | exact HG.out | apply MaxOk.drewN | apply MaxOk.drew))); intro w53 hb; replace uM := rb uM hb; replace gW := kb gW hb; replace HB := bz HB hb; clear hb))
      replace uM := ak (Kd.fV uM.out)
      replace gW := ak (iQ gW.out)
      replace HB := ak (fQ HB.out)
      refine ro [3, 11] [0, 1, 4, 2, 5, 6, 7, 3, 8, 9, 10, 11, 12, 13, 14] (fun w' => w'.cell? ⟨zF, 0, none⟩ = some (.slice jO dY.length jP) ∧ w'.cell? ⟨zF, 1, none⟩ = some (.slice jJ dK.length jK) ∧ w'.cell? ⟨zF, 2, none⟩ = some (.slice iP aH.length f_)) ⟨(aA gW.out 0).trans rfl, (aA gW.out 1).trans rfl, (aA gW.out 2).trans rfl⟩ ?_
      generalize w53.drew = w54 at uM gW HB ⊢
      repeat refine wO ?_
      refine ld (N := some 41) (gk.trans rfl) rfl rfl (fun K hK => ?_)
      refine Kd.sW Kd.string (w0 := w) w.heap.size (by rfl) (.tmp 38) (.tmp 40) 23 9 (.string ⟨#[]⟩) 16 rfl Tryz.underlying23 info9 rfl (by decide) (by omega) Pq Jh dK _ _ _ (fun _ => True) (fun _ => False) rfl rfl ?aO ?aR (fun _ _ h => h) (fun _ h => h.elim) ?aF ?aB ?aS ?aL ?_
      (case aR => repeat (first | exact (Kd.bf tZ.out HB.out) | (with_reducible refine Kd.ni ?_ _) | (with_reducible refine Kd.nC ?_ _) | (with_reducible refine Kd.pY ?_)))
      (case aB => exact bb)
      (case aF => exact (fun _ _ => trivial))
      (case aO => exact (ur uM.out))
      (case aS => exact (aj bb))
      (case aL => have := ajb.out; omega)
      intro ayT w55 ho hb hg hat
      rw [← ajc.out] at ho
      have yQ := ak (cZ (g := zF) (o := .cells #[.slice jO dY.length jP, .slice jJ dK.length jK, .slice iP aH.length f_] 28 (0, 0)) (ub gW.out) hg (Kd.oG uM.out gW.out (by decide)))
      have yR := ak (hb)
      have zB := ak (ho)
      clear gW HB uM
      have gW := yQ
      have HB := yR
      have ad4 := zB
      clear yQ yR zB ho hb hg hat
      refine hK.out _ _ ⟨(aA gW.out 0).trans rfl, (aA gW.out 1).trans rfl, (aA gW.out 2).trans rfl⟩ ?_
      clear hK K
      refine no (a' := ?_) ?_ ?_
      rotate_left
      ·
       show Act.put _ (some 41) _ = _
       simp only [Act.put, yT, yU, l_c, iK, jI]
       rfl
      repeat refine wO ?_
      refine rA Tryz.func105 (qo.calls (cu (Kd.bf tZ.out HB.out)) wP.out A50.out) ?_
      intro nd
      refine ⟨sx, ?_⟩
      repeat refine wO ?_
      refine on ?_
      try go_wp2
      go_ret2
      exact ⟨_, er, ur ad4.out, bb⟩
     ·
      have ajd := beq_eq_false_iff_ne.mpr c49
      have aje := bne_iff_ne.mpr c49
      have aBC : ¬ (aH = []) := fun h_ => c49 (by rw [h_]; rfl)
      obtain ⟨rfl, rfl⟩ := s2 H
      try go_wp2_with (first | ((with_reducible refine eu (b := .append) (xs := #[.tmp 28, .tmp 29]) rfl ?_); (try (refine lD (by rfl) ?_; dsimp only)); at_builtin; refine Kd.pV Kd.string (w0 := w) w.heap.size rfl (.tmp 28) (.tmp 29) 23 9 (.string ⟨#[]⟩) 16 rfl Tryz.underlying23 info9 rfl (by decide) (by omega) agK adX (⟨#[]⟩ : ByteArray) [.string (⟨#[]⟩ : ByteArray)] (fun _ => True) (fun _ => False) rfl rfl ?aP (fun _ hk => hk.elim) ?aF ?aO ?aB ?aS ?aL ?_; (case aP => exact rfl); (case aB => exact bb); (case aF => exact (fun _ _ => trivial)); (case aO => exact (ur jg.out)); (case aS => exact (aj bb)); (case aL => have := Vx.out; omega); intro Pq w56 ho hb hg hat; rw [← adZ.out] at ho; have uM := ak (ho); replace gW := ak (cZ (g := zF) (o := .cells #[.slice jO dY.length jP, .slice jJ dK.length jK, .slice iP aH.length f_] 28 (0, 0)) (ub gW.out) hg (Kd.oG jg.out gW.out (by decide))); replace HB := ak (hb); clear ho hb hg hat jg; have z57 := kK gW.out) | (refine gB Tryz.func101 (kJ.calls (cu (Kd.bf qB.out HB.out)) qQ.out (cu (Kd.bf tZ.out HB.out)) wP.out (cu (Kd.bf jD.out HB.out)) mQ.out ?Ae Zg.out) ?_; (case Ae => first | exact HG.out | exact MaxOk.below HG.out bb | (repeat (first | exact HG.out | apply MaxOk.drewN | apply MaxOk.drew))); intro w58 hb; replace uM := rb uM hb; replace gW := kb gW hb; replace HB := bz HB hb; clear hb))
      replace uM := ak (Kd.fV uM.out)
      replace gW := ak (iQ gW.out)
      replace HB := ak (fQ HB.out)
      refine ro [3] [0, 1, 4, 2, 5, 6, 7, 3, 8, 9, 10, 11, 12, 13, 14] (fun w' => w'.cell? ⟨zF, 0, none⟩ = some (.slice jO dY.length jP) ∧ w'.cell? ⟨zF, 1, none⟩ = some (.slice jJ dK.length jK) ∧ w'.cell? ⟨zF, 2, none⟩ = some (.slice iP aH.length f_)) ⟨(aA gW.out 0).trans rfl, (aA gW.out 1).trans rfl, (aA gW.out 2).trans rfl⟩ ?_
      generalize w58.drew = w59 at uM gW HB ⊢
      repeat (first | refine wO ?_ | refine NR ?_)
      refine ld (N := some 41) (gk.trans rfl) rfl rfl (fun K hK => ?_)
      refine Kd.sW Kd.string (w0 := w) w.heap.size (by rfl) (.tmp 38) (.tmp 40) 23 9 (.string ⟨#[]⟩) 16 rfl Tryz.underlying23 info9 rfl (by decide) (by omega) Pq Jh dK _ _ _ (fun _ => True) (fun _ => False) rfl rfl ?aO ?aR (fun _ _ h => h) (fun _ h => h.elim) ?aF ?aB ?aS ?aL ?_
      (case aR => repeat (first | exact (Kd.bf tZ.out HB.out) | (with_reducible refine Kd.ni ?_ _) | (with_reducible refine Kd.nC ?_ _) | (with_reducible refine Kd.pY ?_)))
      (case aB => exact bb)
      (case aF => exact (fun _ _ => trivial))
      (case aO => exact (ur uM.out))
      (case aS => exact (aj bb))
      (case aL => have := ajb.out; omega)
      intro ayT QC ho hb hg hat
      rw [← ajc.out] at ho
      have yQ := ak (cZ (g := zF) (o := .cells #[.slice jO dY.length jP, .slice jJ dK.length jK, .slice iP aH.length f_] 28 (0, 0)) (ub gW.out) hg (Kd.oG uM.out gW.out (by decide)))
      have yR := ak (hb)
      have zB := ak (ho)
      clear gW HB uM
      have gW := yQ
      have HB := yR
      have ad4 := zB
      clear yQ yR zB ho hb hg hat
      refine hK.out _ _ ⟨(aA gW.out 0).trans rfl, (aA gW.out 1).trans rfl, (aA gW.out 2).trans rfl⟩ ?_
      clear hK K
      refine no (a' := ?_) ?_ ?_
      rotate_left
      ·
       show Act.put _ (some 41) _ = _
       simp only [Act.put, yT, yU, l_c, iK, jI]
       rfl
      repeat (first | refine wO ?_ | refine NR ?_)
      refine on ?_
      try go_wp2
      go_ret2
      exact ⟨_, er, ur ad4.out, bb⟩
def pR.f (k : Nat) (dY : List (gX)) (dK : List ByteArray) (aH : List (nG)) : Option (List ByteArray × Bool) := (aG.f k dY dK aH 3).bind fun ajf => (if ajf.2 = true then (some (ajf.1, true)) else (some (([] : List ByteArray), false)))
theorem pR.calls {k jP jK f_ : Nat} {jO jJ iP : Option Addr} {dY : List (gX)} {dK r1 : List ByteArray} {aH : List (nG)} {r2 : Bool} {w : World} (oW : Kd.C qI w jO dY.length dY) (oZ : dY.length ≤ jP) (o7 : Kd.C Kd.string w jJ dK.length dK) (o8 : dK.length ≤ jK) (kS : Kd.C k28 w iP aH.length aH) (kT : aH.length ≤ f_) (CB : MaxOk w) (h : pR.f k dY dK aH = some (r1, r2)) :
  Calls Tryz.prog 24 #[.agg #[.slice jO dY.length jP, .slice jJ dK.length jK, .slice iP aH.length f_]] w fun e w' => ∃ oV : Value, e = .returned (.tuple #[oV, .bool r2]) ∧ Kd.R Kd.string 9 w' w.heap.size (fun _ => True) oV r1 ∧ Below w.heap.size w w' := by
 have EH := Tryz.underlying28
 have qB := ak oW
 have qQ := ak oZ
 clear oW oZ
 have tZ := ak o7
 have wP := ak o8
 clear o7 o8
 have jD := ak kS
 have mQ := ak kT
 clear kS kT
 have HG := ak CB
 clear CB
 have HB := ak (Below.refl w.heap.size w)
 unfold pR.f at h; have H := h
 clear h
 replace H := bd H
 obtain ⟨⟨arL, aFr⟩, A2, H⟩ := H
 (try dsimp only at H)
 replace H := sb H
 rcases H with ⟨rfl, H⟩ | ⟨rfl, H⟩
 ·
  obtain ⟨rfl, rfl⟩ := s2 H
  go_enter Tryz.func24, Tryz.ntmps24
  go_wp2_with (first | (refine bX HB 1 #[.slice jO dY.length jP, .slice jJ dK.length jK, .slice iP aH.length f_] 28 ?_; intro arM w4 Pv arN hb; replace HB := bs HB hb; clear hb; have z5 := kK Pv.out) | (refine gV Tryz.func66 (aG.calls k _ _ dY _ _ dK _ _ aH 3 arL true _ (cu (Kd.bf qB.out HB.out)) qQ.out (cu (Kd.bf tZ.out HB.out)) wP.out (cu (Kd.bf jD.out HB.out)) mQ.out ?Ae A2.out) ?_; (case Ae => first | exact HG.out | exact MaxOk.below HG.out bb | (repeat (first | exact HG.out | apply MaxOk.drewN | apply MaxOk.drew))); rintro ayU w6 ⟨ho0, hb⟩; have ajg := ak (Kd.aC ho0 (aj bb)); replace Pv := kb Pv hb; replace HB := bz HB hb; clear hb; (try clear ho0)))
  go_ret2
  exact ⟨_, er, ur ajg.out, bb⟩
 ·
  obtain ⟨rfl, rfl⟩ := s2 H
  go_enter Tryz.func24, Tryz.ntmps24
  go_wp2_with (first | (refine bX HB 1 #[.slice jO dY.length jP, .slice jJ dK.length jK, .slice iP aH.length f_] 28 ?_; intro arM w7 Pv arN hb; replace HB := bs HB hb; clear hb; have z8 := kK Pv.out) | (refine gV Tryz.func66 (aG.calls k _ _ dY _ _ dK _ _ aH 3 arL false _ (cu (Kd.bf qB.out HB.out)) qQ.out (cu (Kd.bf tZ.out HB.out)) wP.out (cu (Kd.bf jD.out HB.out)) mQ.out ?Ae A2.out) ?_; (case Ae => first | exact HG.out | exact MaxOk.below HG.out bb | (repeat (first | exact HG.out | apply MaxOk.drewN | apply MaxOk.drew))); rintro ayU w9 ⟨ho0, hb⟩; have ajg := ak (Kd.aC ho0 (aj bb)); replace Pv := kb Pv hb; replace HB := bz HB hb; clear hb; (try clear ho0)))
  go_ret2
  exact ⟨_, er, nx, bb⟩
end Go.Proofs.YtncdadcmghglkaaGreatDoor.PFnPartLines
