/- Printed walks; conditions: those in each statement. -/
import Derived.Test.YtncdadcmghglkaaGreatDoorVFnKidValidQt
import Derived.Test.YtncdadcmghglkaaGreatDoorVFnKidValidYt
import Derived.Test.YtncdadcmghglkaaGreatDoorPFnKidValidx0
import Derived.Test.YtncdadcmghglkaaGreatDoorPFnKidValidx2
import Derived.Test.YtncdadcmghglkaaGreatDoorPFnKidValidx8
-- short
-- dense
-- sq
-- sq2
namespace Go.Proofs.YtncdadcmghglkaaGreatDoor.PFnKidValid
open Go.RowKit Go.Proofs.YtncdadcmghglkaaGreatDoor.X Go.Proofs.YtncdadcmghglkaaGreatDoorW.bI Go.Proofs.YtncdadcmghglkaaGreatDoorW.gq Go.Proofs.YtncdadcmghglkaaGreatDoorW.iJ
attribute [local go_sem] kJ kK mD mF jv jw kL kM   -- for this text's walks alone
set_option linter.unusedVariables false
set_option maxHeartbeats 8000000
set_option maxRecDepth 100000
set_option linter.unusedSimpArgs false
mutual
def aG.j0 : Nat → Int → List ByteArray → Bool → List (gU) → List ByteArray → List (mY) → Option (List ByteArray × Bool)
 | 0, _, _, _, _, _, _ => none
 | k + 1, x1, x6, x27, Jo, z_, yP => if x27 = true then (some (([] : List ByteArray), false)) else (if x6.length < 8796093022208 then ((some (x6 ++ [(⟨#[]⟩ : ByteArray)] : List ByteArray)).bind fun Jp => ((kS.f k Jo z_ yP).bind fun Zm => (if Zm.2 = true then (if (z_.length : Int) > 0 then (aG.j1 k x1 Jp Zm.1 true Jo z_ yP) else (if (yP.length : Int) < 1 then (aG.j1 k x1 Jp Zm.1 true Jo z_ yP) else (aG.j1 k x1 Jp Zm.1 (decide ((yP.length : Int) > 4)) Jo z_ yP))) else (if Jp.length + z_.length < 8796093022208 then ((some (Jp ++ z_ : List ByteArray)).bind fun ams => (if (yP.length : Int) = 0 then ((qB.f k z_ 30).bind fun apB => (some (ams, apB))) else (some (ams, false)))) else (none))))) else (none))
def aG.j1 : Nat → Int → List ByteArray → ByteArray → Bool → List (gU) → List ByteArray → List (mY) → Option (List ByteArray × Bool)
 | 0, _, _, _, _, _, _, _ => none
 | k + 1, x1, x6, x8, x66, Jo, z_, yP => if x66 = true then (some (([] : List ByteArray), false)) else (aG.l0 k x1 x6 x8 (([] : List (List ByteArray))) yP (yP.length : Int) 0)
def aG.l0 : Nat → Int → List ByteArray → ByteArray → List (List ByteArray) → List (mY) → Int → Int → Option (List ByteArray × Bool)
 | 0, _, _, _, _, _, _, _ => none
 | k + 1, x1, x6, x8, x10, x69, x70, x71 => if x71 < x70 then (if 0 ≤ x71 then (if x71 < (x69.length : Int) then ((aG.f k ((bg x69 x71).f0) ((bg x69 x71).f1) ((bg x69 x71).f2) (wrap64 (x1 - 1))).bind fun aje => (if aje.2 = true then (if x10.length < 5864062014805 then (aG.l0 k x1 x6 x8 (x10 ++ [aje.1]) x69 x70 (wrap64 (x71 + 1))) else (none)) else (some (([] : List ByteArray), false)))) else (none)) else (none)) else ((fC.f k x10 x8).bind fun adw => (if x6.length + adw.1.length < 8796093022208 then (some ((x6 ++ adw.1), adw.2)) else (none)))
def aG.f : Nat → List (gU) → List ByteArray → List (mY) → Int → Option (List ByteArray × Bool)
 | 0, _, _, _, _ => none
 | k + 1, dh, bU, ay, a1 => (jc.f k dh).bind fun adx => (if adx.2 = true then (aG.j0 k a1 adx.1 (a1 == 0) dh bU ay) else (aG.j0 k a1 adx.1 true dh bU ay))
end
def aG.T7 : Bool × List (List Nat × List Nat) := (true, [([], []), ([], []), ([1], [1]), ([0, 2], [0, 2]), ([], []), ([4], [4]), ([5], [5]), ([6], [6]), ([7, 3], [7]), ([8], [8]), ([9, 8], [8, 9]), ([10, 8, 8], [8, 10]), ([8, 11], [8, 11]), ([3, 11, 0, 1, 2, 3], [3]), ([12, 13, 0, 1, 2, 3, 4, 5, 6, 7, 8, 9, 10, 11, 12, 13], [12])])
def aG.B7 : List Nat := [0, 0, 2, 7, 0, 16, 48, 112, 255, 511, 1023, 2047, 4095, 4095, 16383]
theorem aG.apC : sQ .any (opsOf Tryz.f66 7) = aG.T7 := by kernel_rfl
theorem aG.ajf : nU aG.T7.2 aG.B7 = true := by kernel_rfl
theorem aG.calls (k : Nat) : ∀ (iY : Option Addr) (iZ : Nat) (dh : List (gU)) (iU : Option Addr) (iV : Nat) (bU : List ByteArray) (gW : Option Addr) (fA : Nat) (ay : List (mY)) (a1 : Int) (r1 : List ByteArray) (r2 : Bool) (w : World) (lW : Kd.C qj w iY dh.length dh) (lX : dh.length ≤ iZ) (lY : Kd.C Kd.string w iU bU.length bU) (lZ : bU.length ≤ iV) (jG : Kd.C k28 w gW ay.length ay) (jH : ay.length ≤ fA) (BX : MaxOk w) (h : aG.f k dh bU ay a1 = some (r1, r2)),
  Calls Tryz.prog 66 #[.agg #[.slice iY dh.length iZ, .slice iU bU.length iV, .slice gW ay.length fA], .int .i64 a1] w fun e w' => ∃ ql : Value, e = .returned (.tuple #[ql, .bool r2]) ∧ Kd.R Kd.string 9 w' w.heap.size (fun _ => True) ql r1 ∧ Below w.heap.size w w' := by
 induction k using Nat.strongRecOn with
 | _ k ih =>
 intro iY iZ dh iU iV bU gW fA ay a1 r1 r2 w lW lX lY lZ jG jH BX h
 cases k with
 | zero => exact absurd h (by simp [aG.f])
 | succ k =>
 simp only [aG.f] at h
 have Dj := Tryz.underlying28
 have oP := ak lW
 have pI := ak lX
 clear lW lX
 have rE := ak lY
 have uG := ak lZ
 clear lY lZ
 have jh := ak jG
 have lC := ak jH
 clear jG jH
 have HG := ak BX
 clear BX
 have HB := ak (Below.refl w.heap.size w)
 have H := h
 clear h
 replace H := bd H
 obtain ⟨⟨ady, apD⟩, A3, H⟩ := H
 (try dsimp only at H)
 have HC4 := ak H
 clear H
 go_enter Tryz.func66, Tryz.ntmps66
 go_upto_region 2 with (first | (refine gG 2 ?_; refine bX HB 2 #[.slice iY dh.length iZ, .slice iU bU.length iV, .slice gW ay.length fA] 28 ?_; intro zS w5 gZ aBH hb; replace HB := bs HB hb; clear hb; have z6 := jW gZ.out) | (refine gV Tryz.func39 (jc.calls (cu (Kd.aN oP.out HB.out)) pI.out A3.out) ?_; rintro ag8 w7 ⟨ho0, hb⟩; have ajg := ak (Kd.aC ho0 (aj bb)); replace gZ := kb gZ hb; replace HB := bz HB hb; clear hb; (try clear ho0)))
 (try simp only [Act.put, qQ, qR, l_c])
 go_cut [27] (fun v27 wc => ∃ (kq : Nat) (adz : Bool), v27 = .bool adz ∧ ah (aG.j0 kq a1 ady adz dh bU ay = some (r1, r2)) ∧ ah (kq ≤ k) ∧ ah (Kd.R Kd.string 9 wc w.heap.size (fun _ => True) ag8 ady) ∧ ah (wc.heap[zS]? = some (.cells #[(.slice iY dh.length iZ), (.slice iU bU.length iV), (.slice gW ay.length fA)] 28 (0, 0))) ∧ ah (Below w.heap.size w wc))
 case first =>
  have H := HC4.out
  clear HC4
  replace H := sb H
  rcases H with ⟨rfl, H⟩ | ⟨rfl, H⟩
  ·
   have H' := ak H; clear H
   go_wp2
   go_meet
   case rel => exact ⟨_, _, rs, H', ⟨Jq⟩, ⟨ur ajg.out⟩, ⟨ub gZ.out⟩, ⟨bb⟩⟩
  ·
   have H' := ak H; clear H
   go_wp2
   go_meet
   case rel => exact ⟨_, _, rs, H', ⟨Jq⟩, ⟨ur ajg.out⟩, ⟨ub gZ.out⟩, ⟨bb⟩⟩
 case rest =>
  clear HC4
  obtain ⟨kq, adz, rfl, HA, HJ3, oI, gZ, HB⟩ := hcut
  cases kq with
  | zero => exact zz HA.out
  | succ kj3 =>
   obtain ⟨H⟩ := HA
   simp only [aG.j0] at H
   replace H := sb H
   rcases H with ⟨rfl, H⟩ | ⟨rfl, H⟩
   ·
    obtain ⟨rfl, rfl⟩ := s2 H
    go_wp2
    go_ret2
    exact ⟨_, er, nx, bb⟩
   ·
    replace H := nl H; obtain ⟨VR, H⟩ := H
    replace H := ny H
    obtain ⟨Jp, adA, H⟩ := H
    replace H := bd H
    obtain ⟨⟨apE, aEw⟩, Zn, H⟩ := H
    (try dsimp only at H)
    replace H := sb H
    rcases H with ⟨rfl, H⟩ | ⟨rfl, H⟩
    ·
     have amu := ak H
     clear H
     go_upto_region 8 with (first | ((with_reducible refine eu (b := .append) (xs := #[.tmp 28, .tmp 29]) rfl ?_); (try (refine lD (by rfl) ?_; dsimp only)); at_builtin; refine Kd.qc Kd.string (w0 := w) w.heap.size rfl (.tmp 28) (.tmp 29) 23 9 (.string ⟨#[]⟩) 16 rfl Tryz.underlying23 info9 rfl (by decide) (by omega) ag8 ady (⟨#[]⟩ : ByteArray) [.string (⟨#[]⟩ : ByteArray)] (fun _ => True) (fun _ => False) rfl rfl ?aP (fun _ hk => hk.elim) ?aF ?aO ?aB ?aS ?aL ?_; (case aP => exact rfl); (case aB => exact bb); (case aF => exact (fun _ _ => trivial)); (case aO => exact (ur oI.out)); (case aS => exact (aj bb)); (case aL => have := VR.out; omega); intro PL SA ho hb hg hat; rw [← adA.out] at ho; have uQ := ak (ho); replace gZ := ak (dw (g := zS) (o := .cells #[.slice iY dh.length iZ, .slice iU bU.length iV, .slice gW ay.length fA] 28 (0, 0)) (ub gZ.out) hg (Kd.oU oI.out gZ.out (by decide))); replace HB := ak (hb); clear ho hb hg hat oI; have z15 := jW gZ.out) | (refine gB Tryz.func101 (kS.calls (cu (Kd.aN oP.out HB.out)) pI.out (cu (Kd.aN rE.out HB.out)) uG.out (cu (Kd.aN jh.out HB.out)) lC.out ?uS Zn.out) ?_; (case uS => first | exact HG.out | exact MaxOk.below HG.out bb | (repeat (first | exact HG.out | apply MaxOk.drewN | apply MaxOk.drew))); intro w16 hb; replace uQ := rb uQ hb; replace gZ := kb gZ hb; replace HB := bz HB hb; clear hb))
     (try simp only [Act.put, qQ, qR, l_c])
     go_cut [66] (fun v66 wc => ∃ (kq : Nat) (X0 : Bool), v66 = .bool X0 ∧ ah (aG.j1 kq a1 Jp apE X0 dh bU ay = some (r1, r2)) ∧ ah (kq ≤ kj3) ∧ ah (Kd.R Kd.string 9 wc w.heap.size (fun _ => True) PL Jp) ∧ ah (wc.heap[zS]? = some (.cells #[(.slice iY dh.length iZ), (.slice iU bU.length iV), (.slice gW ay.length fA)] 28 (0, 0))) ∧ ah (Below w.heap.size w wc))
     case first =>
      have H := amu.out
      clear amu
      replace H := sp H
      rcases H with ⟨c17, H⟩ | ⟨c17, H⟩
      ·
       have tJ : decide (0 < (bU.length : Int)) = true := decide_eq_true c17
       have NM : decide (0 < bU.length) = true := decide_eq_true (by omega)
       clear c17
       (first | rw [tJ] | (simp only [dP, fG]; rw [tJ]) | skip)
       have H' := ak H; clear H
       have z18 := jW gZ.out
       go_wp2
       go_meet
       case rel => exact ⟨_, _, rs, H', ⟨kl⟩, ⟨ur uQ.out⟩, ⟨ub gZ.out⟩, ⟨bb⟩⟩
      ·
       have tJ : decide (0 < (bU.length : Int)) = false := decide_eq_false c17
       have NM : decide (0 < bU.length) = false := decide_eq_false (by omega)
       clear c17
       (first | rw [tJ] | (simp only [dP, fG]; rw [tJ]) | skip)
       replace H := sp H
       rcases H with ⟨c19, H⟩ | ⟨c19, H⟩
       ·
        have Aw := decide_eq_true c19
        have Ew : decide (ay.length < 1) = true := decide_eq_true (by omega)
        clear c19
        have H' := ak H; clear H
        have z20 := jW gZ.out
        go_wp2
        go_meet
        case rel => exact ⟨_, _, rs, H', ⟨kl⟩, ⟨ur uQ.out⟩, ⟨ub gZ.out⟩, ⟨bb⟩⟩
       ·
        have Aw := decide_eq_false c19
        have Ew : decide (ay.length < 1) = false := decide_eq_false (by omega)
        clear c19
        have H' := ak H; clear H
        have z21 := jW gZ.out
        go_wp2
        go_meet
        case rel => exact ⟨_, _, rs, H', ⟨kl⟩, ⟨ur uQ.out⟩, ⟨ub gZ.out⟩, ⟨bb⟩⟩
     case rest =>
      clear amu
      obtain ⟨kq, X0, rfl, HA, adB, oI, gZ, HB⟩ := hcut
      cases kq with
      | zero => exact zz HA.out
      | succ apF =>
       obtain ⟨H⟩ := HA
       simp only [aG.j1] at H
       replace H := sb H
       rcases H with ⟨rfl, H⟩ | ⟨rfl, H⟩
       ·
        obtain ⟨rfl, rfl⟩ := s2 H
        go_wp2
        go_ret2
        exact ⟨_, er, nx, bb⟩
       ·
        obtain ⟨aEx, adC⟩ := nm ([] : List (List ByteArray))
        rw [← adC.out] at H
        have H' := ak H; clear H
        go_wp2_with ((with_reducible refine VT (N := 67) rfl ?_); (try (refine lD (by rfl) ?_; dsimp only)); refine Kd.ajh (Kd.slice 9 Kd.string) _ 23 ?hg (N := 67) ?hd (xs := ([] : List (List ByteArray))) (inner := []) (ok := fun _ => True) (wE := fun _ => True) ?hr ?hp (fun _ hk => hk) trivial (Below.refl _ _) (Nat.le_refl _) (by simp) ?_; (case hd => rfl); (case hg => rfl); (case hr => first | (go_simp; done) | (go_simp; rfl)); (case hp => exact (dD.none _ _)); intro aEy w23 Uf hb BX wH; clear BX wH; (first | rw [← adC.out] at Uf | (simp only [Int.reduceToNat] at Uf; rw [← adC.out] at Uf)); have apG := ak (Kd.Zo (Kd.adD Uf (Kd.kU (ur oI.out))) (aj bb)); replace oI := rb oI hb; replace gZ := kb gZ hb; replace HB := bz HB hb; clear hb Uf; have z25 := jW gZ.out)
        go_loopg [10, 71] apF (fun kq v10 v71 w' => ∃ (VU : List (List ByteArray)) (qU : Int), v71 = .int .i64 qU ∧ ah (aG.l0 kq a1 Jp apE VU ay (ay.length : Int) qU = some (r1, r2)) ∧ ah (kq ≤ apF) ∧ ah (Kd.R Kd.string 9 w' w.heap.size (fun _ => True) PL Jp) ∧ ah (Kd.S (Kd.slice 9 Kd.string) 23 w' w.heap.size (fun k_ => some k_ ≠ (PL : Value).ownBlock) v10 VU) ∧ ah (w'.heap[zS]? = some (.cells #[(.slice iY dh.length iZ), (.slice iU bU.length iV), (.slice gW ay.length fA)] 28 (0, 0))) ∧ ah (Below w.heap.size w w'))
        case atStart => exact ⟨_, _, rs, H', ⟨Nat.le_refl _⟩, ⟨ur oI.out⟩, ⟨by (with_reducible repeat (first | apply Kd.rF | apply Kd.rG | apply Kd.uT)); exact Kd.DV apG.out (fun _ hk => hk.2)⟩, ⟨ub gZ.out⟩, ⟨bb⟩⟩
        case round =>
         clear H'
         obtain ⟨VU, qU, rfl, HA, Zp, oI, vZ, gZ, HB⟩ := hrel
         cases gk with
         | zero => exact zz HA.out
         | succ k3 =>
          obtain ⟨H⟩ := HA
          simp only [aG.l0] at H
          replace H := sd H
          rcases H with ⟨NP, H⟩ | ⟨NP, H⟩
          ·
           replace H := oL H; obtain ⟨Fe, H⟩ := H; replace H := oL H; obtain ⟨Fg, H⟩ := H; replace H := bd H
           obtain ⟨⟨acg, aEz⟩, A29, H⟩ := H
           (try dsimp only at H)
           replace H := sb H
           rcases H with ⟨rfl, H⟩ | ⟨rfl, H⟩
           ·
            replace H := nl H; obtain ⟨adE, H⟩ := H
            obtain ⟨aEA, aji⟩ := nm (VU ++ [acg])
            rw [← aji.out] at H
            have H' := ak H; clear H
            have X3 := zi qU
            have X4 := zj qU ay.length
            obtain ⟨Zq, LW, LX, LY, LZ, L6, L8, e336, Jr, Js, Jt, Ju, Jv, Jw, Jy, Jz, JA⟩ := yB jh.out qU X3 X4
            cases e336
            replace Jr := cl HB.out Jr
            replace Js := cl HB.out Js
            replace Jt := cl HB.out Jt
            have Ug := ak Jv
            have Uh := ak Ju
            clear Jv Ju
            have Ui := ak Jy
            have Uj := ak Jw
            clear Jy Jw
            have Uk := ak JA
            have Ul := ak Jz
            clear JA Jz
            replace X3 := eq_true X3
            replace X4 := eq_true X4
            go_wp2_with (first | (refine gG 12 ?_; refine bY HB 12 #[.slice none 0 0, .slice none 0 0, .slice none 0 0] 28 ?_; intro NQ w32 Ey apH hg hb; have L9 := BL gZ hg; have L_ := BM gZ hg; replace oI := rb oI hb; replace vZ := ak (Kd.JB (by (with_reducible repeat (first | apply Kd.rF | apply Kd.rG | apply Kd.uT)); exact vZ.out) hb); replace gZ := kb gZ hb; replace HB := bz HB hb; clear hb hg; have apI := L_.out; have apJ := L9.out; have z34 := jW Ey.out) | (refine gV Tryz.func66 (ih k3 (by have := HJ3.out; have := adB.out; have := Zp.out; omega) _ _ ((bg ay qU).f0) _ _ ((bg ay qU).f1) _ _ ((bg ay qU).f2) (wrap64 (a1 - 1)) acg true _ (Kd.aN Ug.out bb) Uh.out (Kd.aN Ui.out bb) Uj.out (Kd.aN Uk.out bb) Ul.out ?uS A29.out) ?_; (case uS => first | exact HG.out | exact MaxOk.below HG.out bb | (repeat (first | exact HG.out | apply MaxOk.drewN | apply MaxOk.drew))); rintro ayq w35 ⟨ho0, hb⟩; have VW := ak (Kd.aC (Kd.gK ho0 (Kd.kU (rh oI))) (aj bb)); replace oI := ak (Kd.fP (rh oI) (Kd.fO ho0) hb); replace vZ := ak (Kd.Fh (by (with_reducible repeat (first | apply Kd.rF | apply Kd.rG | apply Kd.uT)); exact (Kd.DV (Kd.SB (p := ⟨NQ, 2, none⟩) (Kd.SB (p := ⟨NQ, 1, none⟩) (Kd.SB (p := ⟨NQ, 0, none⟩) (Kd.Um vZ.out Ey.out (by decide)) (fun _ hk => hk.2) (.slice LW ((bg ay qU).f0).length LX)) (fun _ hk => hk.2) (.slice LY ((bg ay qU).f1).length LZ)) (fun _ hk => hk.2) (.slice L6 ((bg ay qU).f2).length L8)) (fun _ h_ => h_.1))) (Kd.fO ho0) hb); replace gZ := kp gZ #[.slice iY dh.length iZ, .slice iU bU.length iV, .slice (some Zq) ay.length fA] hb; replace Ey := kp Ey #[.slice LW ((bg ay qU).f0).length LX, .slice LY ((bg ay qU).f1).length LZ, .slice L6 ((bg ay qU).f2).length L8] hb; replace HB := bz HB hb; clear hb; (try clear ho0); obtain ⟨ag9, ag_, ach⟩ := Kd.aV VW.out; subst ach) | ((with_reducible refine eu (b := .append) (xs := #[.tmp 84, .tmp 86]) rfl ?_); (try (refine lD (by rfl) ?_; dsimp only)); at_builtin; refine Kd.VX (Kd.slice 9 Kd.string) (w0 := w) w.heap.size rfl (.tmp 84) (.tmp 86) 65 23 (.slice none 0 0) 24 rfl Tryz.underlying65 info23 rfl (by decide) (by omega) u10 VU acg [.slice ag9 acg.length ag_] (fun k_ => some k_ ≠ (PL : Value).ownBlock) (fun k_ => some k_ = (.slice ag9 acg.length ag_ : Value).ownBlock) rfl rfl ?aP (fun k_ hk_ => ((Kd.bn (ok' := fun k_ => ((fun k_ => some k_ ≠ (PL : Value).ownBlock)) k_ ∧ some k_ ≠ (u10 : Value).ownBlock) (Kd.o8 (VW.out) (Kd.GH vZ.out) (by decide)) (fun k_ hk => ⟨hk.1.2, hk.2⟩))).1 k_ hk_.symm) ?aF ?aO ?aB ?aS ?aL ?_; (case aP => exact Kd.ajj (Kd.bn (Kd.Zr rfl (Kd.bn (ok' := fun k_ => ((fun k_ => some k_ ≠ (PL : Value).ownBlock)) k_ ∧ some k_ ≠ (u10 : Value).ownBlock) (Kd.o8 (VW.out) (Kd.GH vZ.out) (by decide)) (fun k_ hk => ⟨hk.1.2, hk.2⟩))) (fun _ h_ => h_))); (case aB => exact bb); (case aF => exact (fun k_ hk => Kd.fresh' (Kd.kU (ur oI.out)) k_ hk)); (case aO => exact (by (with_reducible repeat (first | apply Kd.rF | apply Kd.rG | apply Kd.uT)); exact Kd.DV vZ.out (fun k_ hk => ⟨hk.1, fun e_ => hk.2 e_⟩))); (case aS => exact (aj bb)); (case aL => have := adE.out; omega); intro aEB w36 ho hb hg hat; rw [← aji.out] at ho; have apK := ak (ho); replace oI := ak (Kd.qm (ur oI.out) (Kd.GH (by (with_reducible repeat (first | apply Kd.rF | apply Kd.rG | apply Kd.uT)); exact vZ.out)) (by decide) hg); replace gZ := ak (dw (g := zS) (o := .cells #[.slice iY dh.length iZ, .slice iU bU.length iV, .slice (some Zq) ay.length fA] 28 (0, 0)) (ub gZ.out) hg (Kd.aha vZ.out gZ.out (by decide))); replace Ey := ak (dw (g := NQ) (o := .cells #[.slice LW ((bg ay qU).f0).length LX, .slice LY ((bg ay qU).f1).length LZ, .slice L6 ((bg ay qU).f2).length L8] 28 (0, 0)) (ub Ey.out) hg (Kd.aha vZ.out Ey.out (by decide))); replace HB := ak (hb); clear ho hb hg hat vZ VW))
            go_roundg k3
            case measure => have := HJ3.out; have := adB.out; have := Zp.out; omega
            case rel => exact ⟨_, _, rs, H', ⟨by have := HJ3.out; have := adB.out; have := Zp.out; omega⟩, ⟨ur (Kd.bn oI.out (fun _ hk => trivial))⟩, ⟨by (with_reducible repeat (first | apply Kd.rF | apply Kd.rG | apply Kd.uT)); exact apK.out⟩, ⟨ub gZ.out⟩, ⟨bb⟩⟩
           ·
            obtain ⟨rfl, rfl⟩ := s2 H
            have X3 := zi qU
            have X4 := zj qU ay.length
            obtain ⟨Zq, LW, LX, LY, LZ, L6, L8, e336, Jr, Js, Jt, Ju, Jv, Jw, Jy, Jz, JA⟩ := yB jh.out qU X3 X4
            cases e336
            replace Jr := cl HB.out Jr
            replace Js := cl HB.out Js
            replace Jt := cl HB.out Jt
            have Ug := ak Jv
            have Uh := ak Ju
            clear Jv Ju
            have Ui := ak Jy
            have Uj := ak Jw
            clear Jy Jw
            have Uk := ak JA
            have Ul := ak Jz
            clear JA Jz
            replace X3 := eq_true X3
            replace X4 := eq_true X4
            go_wp2_with (first | (refine gG 12 ?_; refine bY HB 12 #[.slice none 0 0, .slice none 0 0, .slice none 0 0] 28 ?_; intro NQ w38 Ey apH hg hb; have L9 := BL gZ hg; have L_ := BM gZ hg; replace oI := rb oI hb; replace vZ := ak (Kd.JB (by (with_reducible repeat (first | apply Kd.rF | apply Kd.rG | apply Kd.uT)); exact vZ.out) hb); replace gZ := kb gZ hb; replace HB := bz HB hb; clear hb hg; have aBI := L_.out; have aBJ := L9.out; have z40 := jW Ey.out) | (refine gV Tryz.func66 (ih k3 (by have := HJ3.out; have := adB.out; have := Zp.out; omega) _ _ ((bg ay qU).f0) _ _ ((bg ay qU).f1) _ _ ((bg ay qU).f2) (wrap64 (a1 - 1)) acg false _ (Kd.aN Ug.out bb) Uh.out (Kd.aN Ui.out bb) Uj.out (Kd.aN Uk.out bb) Ul.out ?uS A29.out) ?_; (case uS => first | exact HG.out | exact MaxOk.below HG.out bb | (repeat (first | exact HG.out | apply MaxOk.drewN | apply MaxOk.drew))); rintro ayq w41 ⟨ho0, hb⟩; have VW := ak (Kd.aC (Kd.gK ho0 (Kd.kU (rh oI))) (aj bb)); replace oI := ak (Kd.fP (rh oI) (Kd.fO ho0) hb); replace vZ := ak (Kd.Fh (by (with_reducible repeat (first | apply Kd.rF | apply Kd.rG | apply Kd.uT)); exact (Kd.DV (Kd.SB (p := ⟨NQ, 2, none⟩) (Kd.SB (p := ⟨NQ, 1, none⟩) (Kd.SB (p := ⟨NQ, 0, none⟩) (Kd.Um vZ.out Ey.out (by decide)) (fun _ hk => hk.2) (.slice LW ((bg ay qU).f0).length LX)) (fun _ hk => hk.2) (.slice LY ((bg ay qU).f1).length LZ)) (fun _ hk => hk.2) (.slice L6 ((bg ay qU).f2).length L8)) (fun _ h_ => h_.1))) (Kd.fO ho0) hb); replace gZ := kp gZ #[.slice iY dh.length iZ, .slice iU bU.length iV, .slice (some Zq) ay.length fA] hb; replace Ey := kp Ey #[.slice LW ((bg ay qU).f0).length LX, .slice LY ((bg ay qU).f1).length LZ, .slice L6 ((bg ay qU).f2).length L8] hb; replace HB := bz HB hb; clear hb; (try clear ho0)))
            go_ret2
            exact ⟨_, er, nx, bb⟩
          ·
           replace H := bd H
           obtain ⟨⟨ahb, aEC⟩, A42, H⟩ := H
           (try dsimp only at H)
           replace H := nl H; obtain ⟨apL, H⟩ := H
           obtain ⟨aED, ajk⟩ := nm (Jp ++ ahb)
           rw [← ajk.out] at H
           obtain ⟨rfl, rfl⟩ := s2 H
           obtain ⟨adF, adG, aci⟩ := Kd.Zt vZ.out
           subst aci
           go_wp2_with (first | (refine gV Tryz.func106 (fC.calls (cu ((Kd.JC vZ.out).2.2)) ((Kd.JC vZ.out).2.1) A42.out) ?_; rintro aEE w45 ⟨ho0, hb⟩; have VY := ak (Kd.aC (Kd.gK ho0 (Kd.kU (ur oI.out))) (aj bb)); replace oI := ak (Kd.fP (ur oI.out) (Kd.fO ho0) hb); replace vZ := ak (Kd.Fh (by (with_reducible repeat (first | apply Kd.rF | apply Kd.rG | apply Kd.uT)); exact vZ.out) (Kd.fO ho0) hb); replace gZ := kb gZ hb; replace HB := bz HB hb; clear hb; (try clear ho0); obtain ⟨amv, amw, ahc⟩ := Kd.aV VY.out; subst ahc) | ((with_reducible refine eu (b := .append) (xs := #[.tmp 95, .tmp 96]) rfl ?_); (try (refine lD (by rfl) ?_; dsimp only)); at_builtin; refine Kd.qy Kd.string (w0 := w) w.heap.size rfl (.tmp 95) (.tmp 96) 23 9 (.string ⟨#[]⟩) 16 rfl Tryz.underlying23 info9 rfl (by decide) (by omega) PL Jp ahb _ _ _ (fun k_ => some k_ ≠ (.slice amv ahb.length amw : Value).ownBlock) (fun _ => False) rfl rfl ?aO ?aR (fun _ _ h => h) (fun _ h => h.elim) ?aF ?aB ?aS ?aL ?_; (case aR => repeat (first | exact (Kd.aH VY.out).2.2 | (with_reducible refine Kd.jf ?_ _) | (with_reducible refine Kd.jg ?_ _) | (with_reducible refine Kd.kH ?_))); (case aB => exact bb); (case aF => exact (fun k_ hk => Kd.fresh' (Kd.kU (ur VY.out)) k_ hk)); (case aO => exact (ur (Kd.bn oI.out (fun _ hk => hk.2)))); (case aS => exact (aj bb)); (case aL => have := apL.out; omega); intro aEF w46 ho hb hg hat; rw [← ajk.out] at ho; have apM := ak (ho); replace vZ := ak (Kd.Zu (ok := (fun k_ => some k_ ≠ (.slice amv ahb.length amw : Value).ownBlock)) (by (with_reducible repeat (first | apply Kd.rF | apply Kd.rG | apply Kd.uT)); exact Kd.DV vZ.out (fun _ hk => ⟨hk.2, hk.1⟩)) hg hat); replace gZ := ak (dw (g := zS) (o := .cells #[.slice iY dh.length iZ, .slice iU bU.length iV, .slice gW ay.length fA] 28 (0, 0)) (ub gZ.out) hg (Kd.oU oI.out gZ.out (by decide))); replace VY := ak (Kd.Aa (ok := (fun _ => True)) (ur VY.out) hg hat); replace HB := ak (hb); clear ho hb hg hat oI))
           go_ret2
           exact ⟨_, er, ur (Kd.bn apM.out (fun _ hk => trivial)), bb⟩
    ·
     replace H := nl H; obtain ⟨ajl, H⟩ := H
     replace H := ny H
     obtain ⟨ams, ajm, H⟩ := H
     replace H := sp H
     rcases H with ⟨c49, H⟩ | ⟨c49, H⟩
     ·
      have apN := beq_iff_eq.mpr c49
      have apO := bne_eq_false_iff_eq.mpr c49
      clear c49
      replace H := bd H; obtain ⟨apB, A50, H⟩ := H
      obtain ⟨rfl, rfl⟩ := s2 H
      try go_wp2_with (first | ((with_reducible refine eu (b := .append) (xs := #[.tmp 28, .tmp 29]) rfl ?_); (try (refine lD (by rfl) ?_; dsimp only)); at_builtin; refine Kd.qc Kd.string (w0 := w) w.heap.size rfl (.tmp 28) (.tmp 29) 23 9 (.string ⟨#[]⟩) 16 rfl Tryz.underlying23 info9 rfl (by decide) (by omega) ag8 ady (⟨#[]⟩ : ByteArray) [.string (⟨#[]⟩ : ByteArray)] (fun _ => True) (fun _ => False) rfl rfl ?aP (fun _ hk => hk.elim) ?aF ?aO ?aB ?aS ?aL ?_; (case aP => exact rfl); (case aB => exact bb); (case aF => exact (fun _ _ => trivial)); (case aO => exact (ur oI.out)); (case aS => exact (aj bb)); (case aL => have := VR.out; omega); intro PL w51 ho hb hg hat; rw [← adA.out] at ho; have uQ := ak (ho); replace gZ := ak (dw (g := zS) (o := .cells #[.slice iY dh.length iZ, .slice iU bU.length iV, .slice gW ay.length fA] 28 (0, 0)) (ub gZ.out) hg (Kd.oU oI.out gZ.out (by decide))); replace HB := ak (hb); clear ho hb hg hat oI; have z52 := jW gZ.out) | (refine gB Tryz.func101 (kS.calls (cu (Kd.aN oP.out HB.out)) pI.out (cu (Kd.aN rE.out HB.out)) uG.out (cu (Kd.aN jh.out HB.out)) lC.out ?uS Zn.out) ?_; (case uS => first | exact HG.out | exact MaxOk.below HG.out bb | (repeat (first | exact HG.out | apply MaxOk.drewN | apply MaxOk.drew))); intro w53 hb; replace uQ := rb uQ hb; replace gZ := kb gZ hb; replace HB := bz HB hb; clear hb))
      replace uQ := ak (Kd.l9 uQ.out)
      replace gZ := ak (bC gZ.out)
      replace HB := ak (iF HB.out)
      refine ro [3, 11] [0, 1, 4, 2, 5, 6, 7, 3, 8, 9, 10, 11, 12, 13, 14] (fun w' => w'.cell? ⟨zS, 0, none⟩ = some (.slice iY dh.length iZ) ∧ w'.cell? ⟨zS, 1, none⟩ = some (.slice iU bU.length iV) ∧ w'.cell? ⟨zS, 2, none⟩ = some (.slice gW ay.length fA)) ⟨(aA gZ.out 0).trans rfl, (aA gZ.out 1).trans rfl, (aA gZ.out 2).trans rfl⟩ ?_
      generalize w53.drew = w54 at uQ gZ HB ⊢
      repeat refine zF ?_
      refine ld (N := some 41) (gk.trans rfl) rfl rfl (fun K hK => ?_)
      refine Kd.tX Kd.string (w0 := w) w.heap.size (by rfl) (.tmp 38) (.tmp 40) 23 9 (.string ⟨#[]⟩) 16 rfl Tryz.underlying23 info9 rfl (by decide) (by omega) PL Jp bU _ _ _ (fun _ => True) (fun _ => False) rfl rfl ?aO ?aR (fun _ _ h => h) (fun _ h => h.elim) ?aF ?aB ?aS ?aL ?_
      (case aR => repeat (first | exact (Kd.aN rE.out HB.out) | (with_reducible refine Kd.jf ?_ _) | (with_reducible refine Kd.jg ?_ _) | (with_reducible refine Kd.kH ?_)))
      (case aB => exact bb)
      (case aF => exact (fun _ _ => trivial))
      (case aO => exact (ur uQ.out))
      (case aS => exact (aj bb))
      (case aL => have := ajl.out; omega)
      intro ayr w55 ho hb hg hat
      rw [← ajm.out] at ho
      have y5 := ak (dw (g := zS) (o := .cells #[.slice iY dh.length iZ, .slice iU bU.length iV, .slice gW ay.length fA] 28 (0, 0)) (ub gZ.out) hg (Kd.oU uQ.out gZ.out (by decide)))
      have y7 := ak (hb)
      have zT := ak (ho)
      clear gZ HB uQ
      have gZ := y5
      have HB := y7
      have adH := zT
      clear y5 y7 zT ho hb hg hat
      refine hK.out _ _ ⟨(aA gZ.out 0).trans rfl, (aA gZ.out 1).trans rfl, (aA gZ.out 2).trans rfl⟩ ?_
      clear hK K
      refine no (a' := ?_) ?_ ?_
      rotate_left
      ·
       show Act.put _ (some 41) _ = _
       simp only [Act.put, qQ, qR, l_c, dP, fG]
       rfl
      repeat refine zF ?_
      refine rA Tryz.func105 (qB.calls (cu (Kd.aN rE.out HB.out)) uG.out A50.out) ?_
      intro nd
      refine ⟨sx, ?_⟩
      repeat refine zF ?_
      refine on ?_
      try go_wp2
      go_ret2
      exact ⟨_, er, ur adH.out, bb⟩
     ·
      have apN := beq_eq_false_iff_ne.mpr c49
      have apO := bne_iff_ne.mpr c49
      have aBK : ¬ (ay = []) := fun h_ => c49 (by rw [h_]; rfl)
      obtain ⟨rfl, rfl⟩ := s2 H
      try go_wp2_with (first | ((with_reducible refine eu (b := .append) (xs := #[.tmp 28, .tmp 29]) rfl ?_); (try (refine lD (by rfl) ?_; dsimp only)); at_builtin; refine Kd.qc Kd.string (w0 := w) w.heap.size rfl (.tmp 28) (.tmp 29) 23 9 (.string ⟨#[]⟩) 16 rfl Tryz.underlying23 info9 rfl (by decide) (by omega) ag8 ady (⟨#[]⟩ : ByteArray) [.string (⟨#[]⟩ : ByteArray)] (fun _ => True) (fun _ => False) rfl rfl ?aP (fun _ hk => hk.elim) ?aF ?aO ?aB ?aS ?aL ?_; (case aP => exact rfl); (case aB => exact bb); (case aF => exact (fun _ _ => trivial)); (case aO => exact (ur oI.out)); (case aS => exact (aj bb)); (case aL => have := VR.out; omega); intro PL w56 ho hb hg hat; rw [← adA.out] at ho; have uQ := ak (ho); replace gZ := ak (dw (g := zS) (o := .cells #[.slice iY dh.length iZ, .slice iU bU.length iV, .slice gW ay.length fA] 28 (0, 0)) (ub gZ.out) hg (Kd.oU oI.out gZ.out (by decide))); replace HB := ak (hb); clear ho hb hg hat oI; have z57 := jW gZ.out) | (refine gB Tryz.func101 (kS.calls (cu (Kd.aN oP.out HB.out)) pI.out (cu (Kd.aN rE.out HB.out)) uG.out (cu (Kd.aN jh.out HB.out)) lC.out ?uS Zn.out) ?_; (case uS => first | exact HG.out | exact MaxOk.below HG.out bb | (repeat (first | exact HG.out | apply MaxOk.drewN | apply MaxOk.drew))); intro w58 hb; replace uQ := rb uQ hb; replace gZ := kb gZ hb; replace HB := bz HB hb; clear hb))
      replace uQ := ak (Kd.l9 uQ.out)
      replace gZ := ak (bC gZ.out)
      replace HB := ak (iF HB.out)
      refine ro [3] [0, 1, 4, 2, 5, 6, 7, 3, 8, 9, 10, 11, 12, 13, 14] (fun w' => w'.cell? ⟨zS, 0, none⟩ = some (.slice iY dh.length iZ) ∧ w'.cell? ⟨zS, 1, none⟩ = some (.slice iU bU.length iV) ∧ w'.cell? ⟨zS, 2, none⟩ = some (.slice gW ay.length fA)) ⟨(aA gZ.out 0).trans rfl, (aA gZ.out 1).trans rfl, (aA gZ.out 2).trans rfl⟩ ?_
      generalize w58.drew = w59 at uQ gZ HB ⊢
      repeat (first | refine zF ?_ | refine Un ?_)
      refine ld (N := some 41) (gk.trans rfl) rfl rfl (fun K hK => ?_)
      refine Kd.tX Kd.string (w0 := w) w.heap.size (by rfl) (.tmp 38) (.tmp 40) 23 9 (.string ⟨#[]⟩) 16 rfl Tryz.underlying23 info9 rfl (by decide) (by omega) PL Jp bU _ _ _ (fun _ => True) (fun _ => False) rfl rfl ?aO ?aR (fun _ _ h => h) (fun _ h => h.elim) ?aF ?aB ?aS ?aL ?_
      (case aR => repeat (first | exact (Kd.aN rE.out HB.out) | (with_reducible refine Kd.jf ?_ _) | (with_reducible refine Kd.jg ?_ _) | (with_reducible refine Kd.kH ?_)))
      (case aB => exact bb)
      (case aF => exact (fun _ _ => trivial))
      (case aO => exact (ur uQ.out))
      (case aS => exact (aj bb))
      (case aL => have := ajl.out; omega)
      intro ayr SC ho hb hg hat
      rw [← ajm.out] at ho
      have y5 := ak (dw (g := zS) (o := .cells #[.slice iY dh.length iZ, .slice iU bU.length iV, .slice gW ay.length fA] 28 (0, 0)) (ub gZ.out) hg (Kd.oU uQ.out gZ.out (by decide)))
      have y7 := ak (hb)
      have zT := ak (ho)
      clear gZ HB uQ
      have gZ := y5
      have HB := y7
      have adH := zT
      clear y5 y7 zT ho hb hg hat
      refine hK.out _ _ ⟨(aA gZ.out 0).trans rfl, (aA gZ.out 1).trans rfl, (aA gZ.out 2).trans rfl⟩ ?_
      clear hK K
      refine no (a' := ?_) ?_ ?_
      rotate_left
      ·
       show Act.put _ (some 41) _ = _
       simp only [Act.put, qQ, qR, l_c, dP, fG]
       rfl
      repeat (first | refine zF ?_ | refine Un ?_)
      refine on ?_
      try go_wp2
      go_ret2
      exact ⟨_, er, ur adH.out, bb⟩
def lF.f (k : Nat) (dh : List (gU)) (bU : List ByteArray) (ay : List (mY)) : Option (Bool) := (aG.f k dh bU ay 3).bind fun apP => (some apP.2)
theorem lF.calls {k iZ iV fA : Nat} {iY iU gW : Option Addr} {dh : List (gU)} {bU : List ByteArray} {ay : List (mY)} {r : Bool} {w : World} (lW : Kd.C qj w iY dh.length dh) (lX : dh.length ≤ iZ) (lY : Kd.C Kd.string w iU bU.length bU) (lZ : bU.length ≤ iV) (jG : Kd.C k28 w gW ay.length ay) (jH : ay.length ≤ fA) (BX : MaxOk w) (h : lF.f k dh bU ay = some r) :
  Calls Tryz.prog 26 #[.agg #[.slice iY dh.length iZ, .slice iU bU.length iV, .slice gW ay.length fA]] w fun e w' => e = .returned (.bool r) ∧ Below w.heap.size w w' := by
 have Dj := Tryz.underlying28
 have oP := ak lW
 have pI := ak lX
 clear lW lX
 have rE := ak lY
 have uG := ak lZ
 clear lY lZ
 have jh := ak jG
 have lC := ak jH
 clear jG jH
 have HG := ak BX
 clear BX
 have HB := ak (Below.refl w.heap.size w)
 unfold lF.f at h; have H := h
 clear h
 replace H := bd H
 obtain ⟨⟨ays, ayt⟩, A2, H⟩ := H
 (try dsimp only at H)
 obtain rfl := s1 H
 go_enter Tryz.func26, Tryz.ntmps26
 go_wp2_with (first | (refine bX HB 1 #[.slice iY dh.length iZ, .slice iU bU.length iV, .slice gW ay.length fA] 28 ?_; intro aBL w3 adI aBM hb; replace HB := bs HB hb; clear hb; have z4 := jW adI.out) | (refine gV Tryz.func66 (aG.calls k _ _ dh _ _ bU _ _ ay 3 ays ayt _ (cu (Kd.aN oP.out HB.out)) pI.out (cu (Kd.aN rE.out HB.out)) uG.out (cu (Kd.aN jh.out HB.out)) lC.out ?uS A2.out) ?_; (case uS => first | exact HG.out | exact MaxOk.below HG.out bb | (repeat (first | exact HG.out | apply MaxOk.drewN | apply MaxOk.drew))); rintro aEG w5 ⟨ho0, hb⟩; have aBN := ak (Kd.aC ho0 (aj bb)); replace adI := kb adI hb; replace HB := bz HB hb; clear hb; (try clear ho0)))
 go_ret
 exact ⟨er, bb⟩
end Go.Proofs.YtncdadcmghglkaaGreatDoor.PFnKidValid
