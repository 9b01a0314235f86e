/- Printed walks; conditions: those in each statement. -/
import Derived.Test.YtncdadcmghglkaaGreatDoorVFnCountPartsQt
import Derived.Test.YtncdadcmghglkaaGreatDoorVFnCountPartsYt
import Derived.Test.YtncdadcmghglkaaGreatDoorPFnCountPartsx0
import Derived.Test.YtncdadcmghglkaaGreatDoorPFnCountPartsx2
import Derived.Test.YtncdadcmghglkaaGreatDoorPFnCountPartsx8
import Derived.Test.YtncdadcmghglkaaGreatDoorPFnCountPartsx9
-- short
-- dense
-- sq
-- sq2
namespace Go.Proofs.YtncdadcmghglkaaGreatDoor.PFnCountParts
open Go.RowKit Go.Proofs.YtncdadcmghglkaaGreatDoor.X Go.Proofs.YtncdadcmghglkaaGreatDoorW.bI Go.Proofs.YtncdadcmghglkaaGreatDoorW.gI Go.Proofs.YtncdadcmghglkaaGreatDoorW.iL
attribute [local go_sem] kN kP mF mG jB jC kQ kR   -- for this text's walks alone
set_option linter.unusedVariables false
set_option maxHeartbeats 8000000
set_option maxRecDepth 100000
set_option linter.unusedSimpArgs false
mutual
def aH.j0 : Nat → Int → List ByteArray → Bool → List (gY) → List ByteArray → List (nG) → Option (List ByteArray × Bool)
 | 0, _, _, _, _, _, _ => none
 | k + 1, x1, x6, x27, IL, zI, yG => if x27 = true then (some (([] : List ByteArray), false)) else (if x6.length < 8796093022208 then ((some (x6 ++ [(⟨#[]⟩ : ByteArray)] : List ByteArray)).bind fun IQ => ((kW.f k IL zI yG).bind fun YI => (if YI.2 = true then (if (zI.length : Int) > 0 then (aH.j1 k x1 IQ YI.1 true IL zI yG) else (if (yG.length : Int) < 1 then (aH.j1 k x1 IQ YI.1 true IL zI yG) else (aH.j1 k x1 IQ YI.1 (decide ((yG.length : Int) > 4)) IL zI yG))) else (if IQ.length + zI.length < 8796093022208 then ((some (IQ ++ zI : List ByteArray)).bind fun alu => (if (yG.length : Int) = 0 then ((qC.f k zI 30).bind fun aor => (some (alu, aor))) else (some (alu, false)))) else (none))))) else (none))
def aH.j1 : Nat → Int → List ByteArray → ByteArray → Bool → List (gY) → List ByteArray → List (nG) → Option (List ByteArray × Bool)
 | 0, _, _, _, _, _, _, _ => none
 | k + 1, x1, x6, x8, x66, IL, zI, yG => if x66 = true then (some (([] : List ByteArray), false)) else (aH.l0 k x1 x6 x8 (([] : List (List ByteArray))) yG (yG.length : Int) 0)
def aH.l0 : Nat → Int → List ByteArray → ByteArray → List (List ByteArray) → List (nG) → Int → Int → Option (List ByteArray × Bool)
 | 0, _, _, _, _, _, _, _ => none
 | k + 1, x1, x6, x8, x10, x69, x70, x71 => if x71 < x70 then (if 0 ≤ x71 then (if x71 < (x69.length : Int) then ((aH.f k ((bK x69 x71).f0) ((bK x69 x71).f1) ((bK x69 x71).f2) (wrap64 (x1 - 1))).bind fun aij => (if aij.2 = true then (if x10.length < 5864062014805 then (aH.l0 k x1 x6 x8 (x10 ++ [aij.1]) x69 x70 (wrap64 (x71 + 1))) else (none)) else (some (([] : List ByteArray), false)))) else (none)) else (none)) else ((fE.f k x10 x8).bind fun acP => (if x6.length + acP.1.length < 8796093022208 then (some ((x6 ++ acP.1), acP.2)) else (none)))
def aH.f : Nat → List (gY) → List ByteArray → List (nG) → Int → Option (List ByteArray × Bool)
 | 0, _, _, _, _ => none
 | k + 1, dh, bU, aC, a1 => (jh.f k dh).bind fun acQ => (if acQ.2 = true then (aH.j0 k a1 acQ.1 (a1 == 0) dh bU aC) else (aH.j0 k a1 acQ.1 true dh bU aC))
end
def aH.T7 : Bool × List (List Nat × List Nat) := (true, [([], []), ([], []), ([1], [1]), ([0, 2], [0, 2]), ([], []), ([4], [4]), ([5], [5]), ([6], [6]), ([7, 3], [7]), ([8], [8]), ([9, 8], [8, 9]), ([10, 8, 8], [8, 10]), ([8, 11], [8, 11]), ([3, 11, 0, 1, 2, 3], [3]), ([12, 13, 0, 1, 2, 3, 4, 5, 6, 7, 8, 9, 10, 11, 12, 13], [12])])
def aH.B7 : List Nat := [0, 0, 2, 7, 0, 16, 48, 112, 255, 511, 1023, 2047, 4095, 4095, 16383]
theorem aH.aos : sJ .any (opsOf Tryz.f66 7) = aH.T7 := by kernel_rfl
theorem aH.aik : nV aH.T7.2 aH.B7 = true := by kernel_rfl
theorem aH.calls (k : Nat) : ∀ (jf : Option Addr) (jg : Nat) (dh : List (gY)) (iY : Option Addr) (iZ : Nat) (bU : List ByteArray) (gX : Option Addr) (eY : Nat) (aC : List (nG)) (a1 : Int) (r1 : List ByteArray) (r2 : Bool) (w : World) (lZ : Kd.C qJ w jf dh.length dh) (l7 : dh.length ≤ jg) (l9 : Kd.C Kd.string w iY bU.length bU) (mg : bU.length ≤ iZ) (jJ : Kd.C k28 w gX aC.length aC) (jK : aC.length ≤ eY) (Bl : MaxOk w) (h : aH.f k dh bU aC a1 = some (r1, r2)),
  Calls Tryz.prog 66 #[.agg #[.slice jf dh.length jg, .slice iY bU.length iZ, .slice gX aC.length eY], .int .i64 a1] w fun e w' => ∃ qj : Value, e = .returned (.tuple #[qj, .bool r2]) ∧ Kd.R Kd.string 9 w' w.heap.size (fun _ => True) qj r1 ∧ Below w.heap.size w w' := by
 induction k using Nat.strongRecOn with
 | _ k ih =>
 intro jf jg dh iY iZ bU gX eY aC a1 r1 r2 w lZ l7 l9 mg jJ jK Bl h
 cases k with
 | zero => exact absurd h (by simp [aH.f])
 | succ k =>
 simp only [aH.f] at h
 have CG := Tryz.underlying28
 have oO := ak lZ
 have pG := ak l7
 clear lZ l7
 have rE := ak l9
 have uG := ak mg
 clear l9 mg
 have jm := ak jJ
 have lJ := ak jK
 clear jJ jK
 have HG := ak Bl
 clear Bl
 have HB := ak (Below.refl w.heap.size w)
 have H := h
 clear h
 replace H := bd H
 obtain ⟨⟨acR, aot⟩, A3, H⟩ := H
 (try dsimp only at H)
 have HC4 := ak H
 clear H
 go_enter Tryz.func66, Tryz.ntmps66
 go_upto_region 2 with (first | (refine gG 2 ?_; refine bX HB 2 #[.slice jf dh.length jg, .slice iY bU.length iZ, .slice gX aC.length eY] 28 ?_; intro zy w5 ig aAf hb; replace HB := bs HB hb; clear hb; have z6 := jW ig.out) | (refine gV Tryz.func39 (jh.calls (cu (Kd.aW oO.out HB.out)) pG.out A3.out) ?_; rintro agh w7 ⟨ho0, hb⟩; have ail := ak (Kd.aA ho0 (aj bb)); replace ig := kb ig hb; replace HB := bz HB hb; clear hb; (try clear ho0)))
 (try simp only [Act.put, qW, qX, l_c])
 go_cut [27] (fun v27 wc => ∃ (kq : Nat) (acS : Bool), v27 = .bool acS ∧ ah (aH.j0 kq a1 acR acS dh bU aC = some (r1, r2)) ∧ ah (kq ≤ k) ∧ ah (Kd.R Kd.string 9 wc w.heap.size (fun _ => True) agh acR) ∧ ah (wc.heap[zy]? = some (.cells #[(.slice jf dh.length jg), (.slice iY bU.length iZ), (.slice gX aC.length eY)] 28 (0, 0))) ∧ ah (Below w.heap.size w wc))
 case first =>
  have H := HC4.out
  clear HC4
  replace H := sb H
  rcases H with ⟨rfl, H⟩ | ⟨rfl, H⟩
  ·
   have H' := ak H; clear H
   go_wp2
   go_meet
   case rel => exact ⟨_, _, rs, H', ⟨KR⟩, ⟨ur ail.out⟩, ⟨ub ig.out⟩, ⟨bb⟩⟩
  ·
   have H' := ak H; clear H
   go_wp2
   go_meet
   case rel => exact ⟨_, _, rs, H', ⟨KR⟩, ⟨ur ail.out⟩, ⟨ub ig.out⟩, ⟨bb⟩⟩
 case rest =>
  clear HC4
  obtain ⟨kq, acS, rfl, HA, HJ3, oJ, ig, HB⟩ := hcut
  cases kq with
  | zero => exact zz HA.out
  | succ kj3 =>
   obtain ⟨H⟩ := HA
   simp only [aH.j0] at H
   replace H := sb H
   rcases H with ⟨rfl, H⟩ | ⟨rfl, H⟩
   ·
    obtain ⟨rfl, rfl⟩ := s2 H
    go_wp2
    go_ret2
    exact ⟨_, er, nx, bb⟩
   ·
    replace H := nl H; obtain ⟨U9, H⟩ := H
    replace H := ny H
    obtain ⟨IQ, acT, H⟩ := H
    replace H := bd H
    obtain ⟨⟨aou, aC4⟩, YJ, H⟩ := H
    (try dsimp only at H)
    replace H := sb H
    rcases H with ⟨rfl, H⟩ | ⟨rfl, H⟩
    ·
     have alv := ak H
     clear H
     go_upto_region 8 with (first | ((with_reducible refine dZ (b := .append) (xs := #[.tmp 28, .tmp 29]) rfl ?_); (try (refine lK (by rfl) ?_; dsimp only)); at_builtin; refine Kd.pY Kd.string (w0 := w) w.heap.size rfl (.tmp 28) (.tmp 29) 23 9 (.string ⟨#[]⟩) 16 rfl Tryz.underlying23 info9 rfl (by decide) (by omega) agh acR (⟨#[]⟩ : ByteArray) [.string (⟨#[]⟩ : ByteArray)] (fun _ => True) (fun _ => False) rfl rfl ?aP (fun _ hk => hk.elim) ?aF ?aO ?aB ?aS ?aL ?_; (case aP => exact rfl); (case aB => exact bb); (case aF => exact (fun _ _ => trivial)); (case aO => exact (ur oJ.out)); (case aS => exact (aj bb)); (case aL => have := U9.out; omega); intro OO Q8 ho hb hg hat; rw [← acT.out] at ho; have uS := ak (ho); replace ig := ak (dw (g := zy) (o := .cells #[.slice jf dh.length jg, .slice iY bU.length iZ, .slice gX aC.length eY] 28 (0, 0)) (ub ig.out) hg (Kd.oQ oJ.out ig.out (by decide))); replace HB := ak (hb); clear ho hb hg hat oJ; have z15 := jW ig.out) | (refine gB Tryz.func101 (kW.calls (cu (Kd.aW oO.out HB.out)) pG.out (cu (Kd.aW rE.out HB.out)) uG.out (cu (Kd.aW jm.out HB.out)) lJ.out ?qc YJ.out) ?_; (case qc => first | exact HG.out | exact MaxOk.below HG.out bb | (repeat (first | exact HG.out | apply MaxOk.drewN | apply MaxOk.drew))); intro w16 hb; replace uS := rb uS hb; replace ig := kb ig hb; replace HB := bz HB hb; clear hb))
     (try simp only [Act.put, qW, qX, l_c])
     go_cut [66] (fun v66 wc => ∃ (kq : Nat) (Xe : Bool), v66 = .bool Xe ∧ ah (aH.j1 kq a1 IQ aou Xe dh bU aC = some (r1, r2)) ∧ ah (kq ≤ kj3) ∧ ah (Kd.R Kd.string 9 wc w.heap.size (fun _ => True) OO IQ) ∧ ah (wc.heap[zy]? = some (.cells #[(.slice jf dh.length jg), (.slice iY bU.length iZ), (.slice gX aC.length eY)] 28 (0, 0))) ∧ ah (Below w.heap.size w wc))
     case first =>
      have H := alv.out
      clear alv
      replace H := sp H
      rcases H with ⟨c17, H⟩ | ⟨c17, H⟩
      ·
       have tq : decide (0 < (bU.length : Int)) = true := decide_eq_true c17
       have MJ : decide (0 < bU.length) = true := decide_eq_true (by omega)
       clear c17
       (first | rw [tq] | (simp only [dU, fU]; rw [tq]) | skip)
       have H' := ak H; clear H
       have z18 := jW ig.out
       go_wp2
       go_meet
       case rel => exact ⟨_, _, rs, H', ⟨kl⟩, ⟨ur uS.out⟩, ⟨ub ig.out⟩, ⟨bb⟩⟩
      ·
       have tq : decide (0 < (bU.length : Int)) = false := decide_eq_false c17
       have MJ : decide (0 < bU.length) = false := decide_eq_false (by omega)
       clear c17
       (first | rw [tq] | (simp only [dU, fU]; rw [tq]) | skip)
       replace H := sp H
       rcases H with ⟨c19, H⟩ | ⟨c19, H⟩
       ·
        have z_ := decide_eq_true c19
        have Ea : decide (aC.length < 1) = true := decide_eq_true (by omega)
        clear c19
        have H' := ak H; clear H
        have z20 := jW ig.out
        go_wp2
        go_meet
        case rel => exact ⟨_, _, rs, H', ⟨kl⟩, ⟨ur uS.out⟩, ⟨ub ig.out⟩, ⟨bb⟩⟩
       ·
        have z_ := decide_eq_false c19
        have Ea : decide (aC.length < 1) = false := decide_eq_false (by omega)
        clear c19
        have H' := ak H; clear H
        have z21 := jW ig.out
        go_wp2
        go_meet
        case rel => exact ⟨_, _, rs, H', ⟨kl⟩, ⟨ur uS.out⟩, ⟨ub ig.out⟩, ⟨bb⟩⟩
     case rest =>
      clear alv
      obtain ⟨kq, Xe, rfl, HA, acU, oJ, ig, HB⟩ := hcut
      cases kq with
      | zero => exact zz HA.out
      | succ aov =>
       obtain ⟨H⟩ := HA
       simp only [aH.j1] at H
       replace H := sb H
       rcases H with ⟨rfl, H⟩ | ⟨rfl, H⟩
       ·
        obtain ⟨rfl, rfl⟩ := s2 H
        go_wp2
        go_ret2
        exact ⟨_, er, nx, bb⟩
       ·
        obtain ⟨aC5, acV⟩ := nm ([] : List (List ByteArray))
        rw [← acV.out] at H
        have H' := ak H; clear H
        go_wp2_with ((with_reducible refine U_ (N := 67) rfl ?_); (try (refine lK (by rfl) ?_; dsimp only)); refine Kd.ain (Kd.slice 9 Kd.string) _ 23 ?hg (N := 67) ?hd (xs := ([] : List (List ByteArray))) (inner := []) (ok := fun _ => True) (vX := fun _ => True) ?hr ?hp (fun _ hk => hk) trivial (Below.refl _ _) (Nat.le_refl _) (by simp) ?_; (case hd => rfl); (case hg => rfl); (case hr => first | (go_simp; done) | (go_simp; rfl)); (case hp => exact (dD.none _ _)); intro aC6 w23 SX hb Bl wo; clear Bl wo; (first | rw [← acV.out] at SX | (simp only [Int.reduceToNat] at SX; rw [← acV.out] at SX)); have aow := ak (Kd.YK (Kd.acW SX (Kd.kX (ur oJ.out))) (aj bb)); replace oJ := rb oJ hb; replace ig := kb ig hb; replace HB := bz HB hb; clear hb SX; have z25 := jW ig.out)
        go_loopg [10, 71] aov (fun kq v10 v71 w' => ∃ (Va : List (List ByteArray)) (qQ : Int), v71 = .int .i64 qQ ∧ ah (aH.l0 kq a1 IQ aou Va aC (aC.length : Int) qQ = some (r1, r2)) ∧ ah (kq ≤ aov) ∧ ah (Kd.R Kd.string 9 w' w.heap.size (fun _ => True) OO IQ) ∧ ah (Kd.S (Kd.slice 9 Kd.string) 23 w' w.heap.size (fun k_ => some k_ ≠ (OO : Value).ownBlock) v10 Va) ∧ ah (w'.heap[zy]? = some (.cells #[(.slice jf dh.length jg), (.slice iY bU.length iZ), (.slice gX aC.length eY)] 28 (0, 0))) ∧ ah (Below w.heap.size w w'))
        case atStart => exact ⟨_, _, rs, H', ⟨Nat.le_refl _⟩, ⟨ur oJ.out⟩, ⟨by (with_reducible repeat (first | apply Kd.rF | apply Kd.rG | apply Kd.uT)); exact Kd.Du aow.out (fun _ hk => hk.2)⟩, ⟨ub ig.out⟩, ⟨bb⟩⟩
        case round =>
         clear H'
         obtain ⟨Va, qQ, rfl, HA, YL, oJ, vP, ig, HB⟩ := hrel
         cases gk with
         | zero => exact zz HA.out
         | succ k3 =>
          obtain ⟨H⟩ := HA
          simp only [aH.l0] at H
          replace H := sd H
          rcases H with ⟨MK, H⟩ | ⟨MK, H⟩
          ·
           replace H := oM H; obtain ⟨EO, H⟩ := H; replace H := oM H; obtain ⟨EP, H⟩ := H; replace H := bd H
           obtain ⟨⟨abv, aC7⟩, A29, H⟩ := H
           (try dsimp only at H)
           replace H := sb H
           rcases H with ⟨rfl, H⟩ | ⟨rfl, H⟩
           ·
            replace H := nl H; obtain ⟨acX, H⟩ := H
            obtain ⟨aC8, aio⟩ := nm (Va ++ [abv])
            rw [← aio.out] at H
            have H' := ak H; clear H
            have Xf := zi qQ
            have Xg := zj qQ aC.length
            obtain ⟨YM, KT, KU, KW, KX, KY, KZ, e336, IU, IV, IW, IX, IY, IZ, I4, I5, I7⟩ := Ce jm.out qQ Xf Xg
            cases e336
            replace IU := cl HB.out IU
            replace IV := cl HB.out IV
            replace IW := cl HB.out IW
            have SY := ak IY
            have S9 := ak IX
            clear IY IX
            have S_ := ak I4
            have Tc := ak IZ
            clear I4 IZ
            have Td := ak I7
            have Tf := ak I5
            clear I7 I5
            replace Xf := eq_true Xf
            replace Xg := eq_true Xg
            go_wp2_with (first | (refine gG 12 ?_; refine bY HB 12 #[.slice none 0 0, .slice none 0 0, .slice none 0 0] 28 ?_; intro ML w32 Eb aox hg hb; have K_ := AZ ig hg; have La := A_ ig hg; replace oJ := rb oJ hb; replace vP := ak (Kd.I8 (by (with_reducible repeat (first | apply Kd.rF | apply Kd.rG | apply Kd.uT)); exact vP.out) hb); replace ig := kb ig hb; replace HB := bz HB hb; clear hb hg; have aoy := La.out; have aoz := K_.out; have z34 := jW Eb.out) | (refine gV Tryz.func66 (ih k3 (by have := HJ3.out; have := acU.out; have := YL.out; omega) _ _ ((bK aC qQ).f0) _ _ ((bK aC qQ).f1) _ _ ((bK aC qQ).f2) (wrap64 (a1 - 1)) abv true _ (Kd.aW SY.out bb) S9.out (Kd.aW S_.out bb) Tc.out (Kd.aW Td.out bb) Tf.out ?qc A29.out) ?_; (case qc => first | exact HG.out | exact MaxOk.below HG.out bb | (repeat (first | exact HG.out | apply MaxOk.drewN | apply MaxOk.drew))); rintro awZ w35 ⟨ho0, hb⟩; have Vb := ak (Kd.aA (Kd.gU ho0 (Kd.kX (rh oJ))) (aj bb)); replace oJ := ak (Kd.fV (rh oJ) (Kd.fQ ho0) hb); replace vP := ak (Kd.ER (by (with_reducible repeat (first | apply Kd.rF | apply Kd.rG | apply Kd.uT)); exact (Kd.Du (Kd.Q9 (p := ⟨ML, 2, none⟩) (Kd.Q9 (p := ⟨ML, 1, none⟩) (Kd.Q9 (p := ⟨ML, 0, none⟩) (Kd.Ti vP.out Eb.out (by decide)) (fun _ hk => hk.2) (.slice KT ((bK aC qQ).f0).length KU)) (fun _ hk => hk.2) (.slice KW ((bK aC qQ).f1).length KX)) (fun _ hk => hk.2) (.slice KY ((bK aC qQ).f2).length KZ)) (fun _ h_ => h_.1))) (Kd.fQ ho0) hb); replace ig := kp ig #[.slice jf dh.length jg, .slice iY bU.length iZ, .slice (some YM) aC.length eY] hb; replace Eb := kp Eb #[.slice KT ((bK aC qQ).f0).length KU, .slice KW ((bK aC qQ).f1).length KX, .slice KY ((bK aC qQ).f2).length KZ] hb; replace HB := bz HB hb; clear hb; (try clear ho0); obtain ⟨agi, agj, abw⟩ := Kd.aN Vb.out; subst abw) | ((with_reducible refine dZ (b := .append) (xs := #[.tmp 84, .tmp 86]) rfl ?_); (try (refine lK (by rfl) ?_; dsimp only)); at_builtin; refine Kd.Vd (Kd.slice 9 Kd.string) (w0 := w) w.heap.size rfl (.tmp 84) (.tmp 86) 65 23 (.slice none 0 0) 24 rfl Tryz.underlying65 info23 rfl (by decide) (by omega) u10 Va abv [.slice agi abv.length agj] (fun k_ => some k_ ≠ (OO : Value).ownBlock) (fun k_ => some k_ = (.slice agi abv.length agj : Value).ownBlock) rfl rfl ?aP (fun k_ hk_ => ((Kd.aZ (ok' := fun k_ => ((fun k_ => some k_ ≠ (OO : Value).ownBlock)) k_ ∧ some k_ ≠ (u10 : Value).ownBlock) (Kd.o7 (Vb.out) (Kd.FW vP.out) (by decide)) (fun k_ hk => ⟨hk.1.2, hk.2⟩))).1 k_ hk_.symm) ?aF ?aO ?aB ?aS ?aL ?_; (case aP => exact Kd.aip (Kd.aZ (Kd.YN rfl (Kd.aZ (ok' := fun k_ => ((fun k_ => some k_ ≠ (OO : Value).ownBlock)) k_ ∧ some k_ ≠ (u10 : Value).ownBlock) (Kd.o7 (Vb.out) (Kd.FW vP.out) (by decide)) (fun k_ hk => ⟨hk.1.2, hk.2⟩))) (fun _ h_ => h_))); (case aB => exact bb); (case aF => exact (fun k_ hk => Kd.fresh' (Kd.kX (ur oJ.out)) k_ hk)); (case aO => exact (by (with_reducible repeat (first | apply Kd.rF | apply Kd.rG | apply Kd.uT)); exact Kd.Du vP.out (fun k_ hk => ⟨hk.1, fun e_ => hk.2 e_⟩))); (case aS => exact (aj bb)); (case aL => have := acX.out; omega); intro aC9 w36 ho hb hg hat; rw [← aio.out] at ho; have aoA := ak (ho); replace oJ := ak (Kd.qo (ur oJ.out) (Kd.FW (by (with_reducible repeat (first | apply Kd.rF | apply Kd.rG | apply Kd.uT)); exact vP.out)) (by decide) hg); replace ig := ak (dw (g := zy) (o := .cells #[.slice jf dh.length jg, .slice iY bU.length iZ, .slice (some YM) aC.length eY] 28 (0, 0)) (ub ig.out) hg (Kd.agk vP.out ig.out (by decide))); replace Eb := ak (dw (g := ML) (o := .cells #[.slice KT ((bK aC qQ).f0).length KU, .slice KW ((bK aC qQ).f1).length KX, .slice KY ((bK aC qQ).f2).length KZ] 28 (0, 0)) (ub Eb.out) hg (Kd.agk vP.out Eb.out (by decide))); replace HB := ak (hb); clear ho hb hg hat vP Vb))
            go_roundg k3
            case measure => have := HJ3.out; have := acU.out; have := YL.out; omega
            case rel => exact ⟨_, _, rs, H', ⟨by have := HJ3.out; have := acU.out; have := YL.out; omega⟩, ⟨ur (Kd.aZ oJ.out (fun _ hk => trivial))⟩, ⟨by (with_reducible repeat (first | apply Kd.rF | apply Kd.rG | apply Kd.uT)); exact aoA.out⟩, ⟨ub ig.out⟩, ⟨bb⟩⟩
           ·
            obtain ⟨rfl, rfl⟩ := s2 H
            have Xf := zi qQ
            have Xg := zj qQ aC.length
            obtain ⟨YM, KT, KU, KW, KX, KY, KZ, e336, IU, IV, IW, IX, IY, IZ, I4, I5, I7⟩ := Ce jm.out qQ Xf Xg
            cases e336
            replace IU := cl HB.out IU
            replace IV := cl HB.out IV
            replace IW := cl HB.out IW
            have SY := ak IY
            have S9 := ak IX
            clear IY IX
            have S_ := ak I4
            have Tc := ak IZ
            clear I4 IZ
            have Td := ak I7
            have Tf := ak I5
            clear I7 I5
            replace Xf := eq_true Xf
            replace Xg := eq_true Xg
            go_wp2_with (first | (refine gG 12 ?_; refine bY HB 12 #[.slice none 0 0, .slice none 0 0, .slice none 0 0] 28 ?_; intro ML w38 Eb aox hg hb; have K_ := AZ ig hg; have La := A_ ig hg; replace oJ := rb oJ hb; replace vP := ak (Kd.I8 (by (with_reducible repeat (first | apply Kd.rF | apply Kd.rG | apply Kd.uT)); exact vP.out) hb); replace ig := kb ig hb; replace HB := bz HB hb; clear hb hg; have aAg := La.out; have aAh := K_.out; have z40 := jW Eb.out) | (refine gV Tryz.func66 (ih k3 (by have := HJ3.out; have := acU.out; have := YL.out; omega) _ _ ((bK aC qQ).f0) _ _ ((bK aC qQ).f1) _ _ ((bK aC qQ).f2) (wrap64 (a1 - 1)) abv false _ (Kd.aW SY.out bb) S9.out (Kd.aW S_.out bb) Tc.out (Kd.aW Td.out bb) Tf.out ?qc A29.out) ?_; (case qc => first | exact HG.out | exact MaxOk.below HG.out bb | (repeat (first | exact HG.out | apply MaxOk.drewN | apply MaxOk.drew))); rintro awZ w41 ⟨ho0, hb⟩; have Vb := ak (Kd.aA (Kd.gU ho0 (Kd.kX (rh oJ))) (aj bb)); replace oJ := ak (Kd.fV (rh oJ) (Kd.fQ ho0) hb); replace vP := ak (Kd.ER (by (with_reducible repeat (first | apply Kd.rF | apply Kd.rG | apply Kd.uT)); exact (Kd.Du (Kd.Q9 (p := ⟨ML, 2, none⟩) (Kd.Q9 (p := ⟨ML, 1, none⟩) (Kd.Q9 (p := ⟨ML, 0, none⟩) (Kd.Ti vP.out Eb.out (by decide)) (fun _ hk => hk.2) (.slice KT ((bK aC qQ).f0).length KU)) (fun _ hk => hk.2) (.slice KW ((bK aC qQ).f1).length KX)) (fun _ hk => hk.2) (.slice KY ((bK aC qQ).f2).length KZ)) (fun _ h_ => h_.1))) (Kd.fQ ho0) hb); replace ig := kp ig #[.slice jf dh.length jg, .slice iY bU.length iZ, .slice (some YM) aC.length eY] hb; replace Eb := kp Eb #[.slice KT ((bK aC qQ).f0).length KU, .slice KW ((bK aC qQ).f1).length KX, .slice KY ((bK aC qQ).f2).length KZ] hb; replace HB := bz HB hb; clear hb; (try clear ho0)))
            go_ret2
            exact ⟨_, er, nx, bb⟩
          ·
           replace H := bd H
           obtain ⟨⟨agl, aC_⟩, A42, H⟩ := H
           (try dsimp only at H)
           replace H := nl H; obtain ⟨aoB, H⟩ := H
           obtain ⟨aDa, aiq⟩ := nm (IQ ++ agl)
           rw [← aiq.out] at H
           obtain ⟨rfl, rfl⟩ := s2 H
           obtain ⟨acY, acZ, abx⟩ := Kd.YO vP.out
           subst abx
           go_wp2_with (first | (refine gV Tryz.func106 (fE.calls (cu ((Kd.I9 vP.out).2.2)) ((Kd.I9 vP.out).2.1) A42.out) ?_; rintro aDb w45 ⟨ho0, hb⟩; have Ve := ak (Kd.aA (Kd.gU ho0 (Kd.kX (ur oJ.out))) (aj bb)); replace oJ := ak (Kd.fV (ur oJ.out) (Kd.fQ ho0) hb); replace vP := ak (Kd.ER (by (with_reducible repeat (first | apply Kd.rF | apply Kd.rG | apply Kd.uT)); exact vP.out) (Kd.fQ ho0) hb); replace ig := kb ig hb; replace HB := bz HB hb; clear hb; (try clear ho0); obtain ⟨Vf, Tj, aby⟩ := Kd.aN Ve.out; subst aby) | ((with_reducible refine dZ (b := .append) (xs := #[.tmp 95, .tmp 96]) rfl ?_); (try (refine lK (by rfl) ?_; dsimp only)); at_builtin; refine Kd.qA Kd.string (w0 := w) w.heap.size rfl (.tmp 95) (.tmp 96) 23 9 (.string ⟨#[]⟩) 16 rfl Tryz.underlying23 info9 rfl (by decide) (by omega) OO IQ agl _ _ _ (fun k_ => some k_ ≠ (.slice Vf agl.length Tj : Value).ownBlock) (fun _ => False) rfl rfl ?aO ?aR (fun _ _ h => h) (fun _ h => h.elim) ?aF ?aB ?aS ?aL ?_; (case aR => repeat (first | exact (Kd.au Ve.out).2.2 | (with_reducible refine Kd.ql ?_ _) | (with_reducible refine Kd.qm ?_ _) | (with_reducible refine Kd.tJ ?_))); (case aB => exact bb); (case aF => exact (fun k_ hk => Kd.fresh' (Kd.kX (ur Ve.out)) k_ hk)); (case aO => exact (ur (Kd.aZ oJ.out (fun _ hk => hk.2)))); (case aS => exact (aj bb)); (case aL => have := aoB.out; omega); intro aDc w46 ho hb hg hat; rw [← aiq.out] at ho; have aoC := ak (ho); replace vP := ak (Kd.YP (ok := (fun k_ => some k_ ≠ (.slice Vf agl.length Tj : Value).ownBlock)) (by (with_reducible repeat (first | apply Kd.rF | apply Kd.rG | apply Kd.uT)); exact Kd.Du vP.out (fun _ hk => ⟨hk.2, hk.1⟩)) hg hat); replace ig := ak (dw (g := zy) (o := .cells #[.slice jf dh.length jg, .slice iY bU.length iZ, .slice gX aC.length eY] 28 (0, 0)) (ub ig.out) hg (Kd.oQ oJ.out ig.out (by decide))); replace Ve := ak (Kd.zJ (ok := (fun _ => True)) (ur Ve.out) hg hat); replace HB := ak (hb); clear ho hb hg hat oJ))
           go_ret2
           exact ⟨_, er, ur (Kd.aZ aoC.out (fun _ hk => trivial)), bb⟩
    ·
     replace H := nl H; obtain ⟨air, H⟩ := H
     replace H := ny H
     obtain ⟨alu, ais, H⟩ := H
     replace H := sp H
     rcases H with ⟨c49, H⟩ | ⟨c49, H⟩
     ·
      have aoD := beq_iff_eq.mpr c49
      have aoE := bne_eq_false_iff_eq.mpr c49
      clear c49
      replace H := bd H; obtain ⟨aor, A50, H⟩ := H
      obtain ⟨rfl, rfl⟩ := s2 H
      try go_wp2_with (first | ((with_reducible refine dZ (b := .append) (xs := #[.tmp 28, .tmp 29]) rfl ?_); (try (refine lK (by rfl) ?_; dsimp only)); at_builtin; refine Kd.pY Kd.string (w0 := w) w.heap.size rfl (.tmp 28) (.tmp 29) 23 9 (.string ⟨#[]⟩) 16 rfl Tryz.underlying23 info9 rfl (by decide) (by omega) agh acR (⟨#[]⟩ : ByteArray) [.string (⟨#[]⟩ : ByteArray)] (fun _ => True) (fun _ => False) rfl rfl ?aP (fun _ hk => hk.elim) ?aF ?aO ?aB ?aS ?aL ?_; (case aP => exact rfl); (case aB => exact bb); (case aF => exact (fun _ _ => trivial)); (case aO => exact (ur oJ.out)); (case aS => exact (aj bb)); (case aL => have := U9.out; omega); intro OO w51 ho hb hg hat; rw [← acT.out] at ho; have uS := ak (ho); replace ig := ak (dw (g := zy) (o := .cells #[.slice jf dh.length jg, .slice iY bU.length iZ, .slice gX aC.length eY] 28 (0, 0)) (ub ig.out) hg (Kd.oQ oJ.out ig.out (by decide))); replace HB := ak (hb); clear ho hb hg hat oJ; have z52 := jW ig.out) | (refine gB Tryz.func101 (kW.calls (cu (Kd.aW oO.out HB.out)) pG.out (cu (Kd.aW rE.out HB.out)) uG.out (cu (Kd.aW jm.out HB.out)) lJ.out ?qc YJ.out) ?_; (case qc => first | exact HG.out | exact MaxOk.below HG.out bb | (repeat (first | exact HG.out | apply MaxOk.drewN | apply MaxOk.drew))); intro w53 hb; replace uS := rb uS hb; replace ig := kb ig hb; replace HB := bz HB hb; clear hb))
      replace uS := ak (Kd.mD uS.out)
      replace ig := ak (bn ig.out)
      replace HB := ak (iH HB.out)
      refine ro [3, 11] [0, 1, 4, 2, 5, 6, 7, 3, 8, 9, 10, 11, 12, 13, 14] (fun w' => w'.cell? ⟨zy, 0, none⟩ = some (.slice jf dh.length jg) ∧ w'.cell? ⟨zy, 1, none⟩ = some (.slice iY bU.length iZ) ∧ w'.cell? ⟨zy, 2, none⟩ = some (.slice gX aC.length eY)) ⟨(aG ig.out 0).trans rfl, (aG ig.out 1).trans rfl, (aG ig.out 2).trans rfl⟩ ?_
      generalize w53.drew = w54 at uS ig HB ⊢
      repeat refine y8 ?_
      refine ld (N := some 41) (gk.trans rfl) rfl rfl (fun K hK => ?_)
      refine Kd.tN Kd.string (w0 := w) w.heap.size (by rfl) (.tmp 38) (.tmp 40) 23 9 (.string ⟨#[]⟩) 16 rfl Tryz.underlying23 info9 rfl (by decide) (by omega) OO IQ bU _ _ _ (fun _ => True) (fun _ => False) rfl rfl ?aO ?aR (fun _ _ h => h) (fun _ h => h.elim) ?aF ?aB ?aS ?aL ?_
      (case aR => repeat (first | exact (Kd.aW rE.out HB.out) | (with_reducible refine Kd.ql ?_ _) | (with_reducible refine Kd.qm ?_ _) | (with_reducible refine Kd.tJ ?_)))
      (case aB => exact bb)
      (case aF => exact (fun _ _ => trivial))
      (case aO => exact (ur uS.out))
      (case aS => exact (aj bb))
      (case aL => have := air.out; omega)
      intro aw0 w55 ho hb hg hat
      rw [← ais.out] at ho
      have yP := ak (dw (g := zy) (o := .cells #[.slice jf dh.length jg, .slice iY bU.length iZ, .slice gX aC.length eY] 28 (0, 0)) (ub ig.out) hg (Kd.oQ uS.out ig.out (by decide)))
      have yQ := ak (hb)
      have zA := ak (ho)
      clear ig HB uS
      have ig := yP
      have HB := yQ
      have ac0 := zA
      clear yP yQ zA ho hb hg hat
      refine hK.out _ _ ⟨(aG ig.out 0).trans rfl, (aG ig.out 1).trans rfl, (aG ig.out 2).trans rfl⟩ ?_
      clear hK K
      refine no (a' := ?_) ?_ ?_
      rotate_left
      ·
       show Act.put _ (some 41) _ = _
       simp only [Act.put, qW, qX, l_c, dU, fU]
       rfl
      repeat refine y8 ?_
      refine rA Tryz.func105 (qC.calls (cu (Kd.aW rE.out HB.out)) uG.out A50.out) ?_
      intro nd
      refine ⟨sx, ?_⟩
      repeat refine y8 ?_
      refine on ?_
      try go_wp2
      go_ret2
      exact ⟨_, er, ur ac0.out, bb⟩
     ·
      have aoD := beq_eq_false_iff_ne.mpr c49
      have aoE := bne_iff_ne.mpr c49
      have aAi : ¬ (aC = []) := fun h_ => c49 (by rw [h_]; rfl)
      obtain ⟨rfl, rfl⟩ := s2 H
      try go_wp2_with (first | ((with_reducible refine dZ (b := .append) (xs := #[.tmp 28, .tmp 29]) rfl ?_); (try (refine lK (by rfl) ?_; dsimp only)); at_builtin; refine Kd.pY Kd.string (w0 := w) w.heap.size rfl (.tmp 28) (.tmp 29) 23 9 (.string ⟨#[]⟩) 16 rfl Tryz.underlying23 info9 rfl (by decide) (by omega) agh acR (⟨#[]⟩ : ByteArray) [.string (⟨#[]⟩ : ByteArray)] (fun _ => True) (fun _ => False) rfl rfl ?aP (fun _ hk => hk.elim) ?aF ?aO ?aB ?aS ?aL ?_; (case aP => exact rfl); (case aB => exact bb); (case aF => exact (fun _ _ => trivial)); (case aO => exact (ur oJ.out)); (case aS => exact (aj bb)); (case aL => have := U9.out; omega); intro OO w56 ho hb hg hat; rw [← acT.out] at ho; have uS := ak (ho); replace ig := ak (dw (g := zy) (o := .cells #[.slice jf dh.length jg, .slice iY bU.length iZ, .slice gX aC.length eY] 28 (0, 0)) (ub ig.out) hg (Kd.oQ oJ.out ig.out (by decide))); replace HB := ak (hb); clear ho hb hg hat oJ; have z57 := jW ig.out) | (refine gB Tryz.func101 (kW.calls (cu (Kd.aW oO.out HB.out)) pG.out (cu (Kd.aW rE.out HB.out)) uG.out (cu (Kd.aW jm.out HB.out)) lJ.out ?qc YJ.out) ?_; (case qc => first | exact HG.out | exact MaxOk.below HG.out bb | (repeat (first | exact HG.out | apply MaxOk.drewN | apply MaxOk.drew))); intro w58 hb; replace uS := rb uS hb; replace ig := kb ig hb; replace HB := bz HB hb; clear hb))
      replace uS := ak (Kd.mD uS.out)
      replace ig := ak (bn ig.out)
      replace HB := ak (iH HB.out)
      refine ro [3] [0, 1, 4, 2, 5, 6, 7, 3, 8, 9, 10, 11, 12, 13, 14] (fun w' => w'.cell? ⟨zy, 0, none⟩ = some (.slice jf dh.length jg) ∧ w'.cell? ⟨zy, 1, none⟩ = some (.slice iY bU.length iZ) ∧ w'.cell? ⟨zy, 2, none⟩ = some (.slice gX aC.length eY)) ⟨(aG ig.out 0).trans rfl, (aG ig.out 1).trans rfl, (aG ig.out 2).trans rfl⟩ ?_
      generalize w58.drew = w59 at uS ig HB ⊢
      repeat (first | refine y8 ?_ | refine Tm ?_)
      refine ld (N := some 41) (gk.trans rfl) rfl rfl (fun K hK => ?_)
      refine Kd.tN Kd.string (w0 := w) w.heap.size (by rfl) (.tmp 38) (.tmp 40) 23 9 (.string ⟨#[]⟩) 16 rfl Tryz.underlying23 info9 rfl (by decide) (by omega) OO IQ bU _ _ _ (fun _ => True) (fun _ => False) rfl rfl ?aO ?aR (fun _ _ h => h) (fun _ h => h.elim) ?aF ?aB ?aS ?aL ?_
      (case aR => repeat (first | exact (Kd.aW rE.out HB.out) | (with_reducible refine Kd.ql ?_ _) | (with_reducible refine Kd.qm ?_ _) | (with_reducible refine Kd.tJ ?_)))
      (case aB => exact bb)
      (case aF => exact (fun _ _ => trivial))
      (case aO => exact (ur uS.out))
      (case aS => exact (aj bb))
      (case aL => have := air.out; omega)
      intro aw0 Q_ ho hb hg hat
      rw [← ais.out] at ho
      have yP := ak (dw (g := zy) (o := .cells #[.slice jf dh.length jg, .slice iY bU.length iZ, .slice gX aC.length eY] 28 (0, 0)) (ub ig.out) hg (Kd.oQ uS.out ig.out (by decide)))
      have yQ := ak (hb)
      have zA := ak (ho)
      clear ig HB uS
      have ig := yP
      have HB := yQ
      have ac0 := zA
      clear yP yQ zA ho hb hg hat
      refine hK.out _ _ ⟨(aG ig.out 0).trans rfl, (aG ig.out 1).trans rfl, (aG ig.out 2).trans rfl⟩ ?_
      clear hK K
      refine no (a' := ?_) ?_ ?_
      rotate_left
      ·
       show Act.put _ (some 41) _ = _
       simp only [Act.put, qW, qX, l_c, dU, fU]
       rfl
      repeat (first | refine y8 ?_ | refine Tm ?_)
      refine on ?_
      try go_wp2
      go_ret2
      exact ⟨_, er, ur ac0.out, bb⟩
def kE.f (k : Nat) (dh : List (gY)) (bU : List ByteArray) (aC : List (nG)) : Option (Bool) := (aH.f k dh bU aC 3).bind fun aoF => (some aoF.2)
theorem kE.calls {k jg iZ eY : Nat} {jf iY gX : Option Addr} {dh : List (gY)} {bU : List ByteArray} {aC : List (nG)} {r : Bool} {w : World} (lZ : Kd.C qJ w jf dh.length dh) (l7 : dh.length ≤ jg) (l9 : Kd.C Kd.string w iY bU.length bU) (mg : bU.length ≤ iZ) (jJ : Kd.C k28 w gX aC.length aC) (jK : aC.length ≤ eY) (Bl : MaxOk w) (h : kE.f k dh bU aC = some r) :
  Calls Tryz.prog 26 #[.agg #[.slice jf dh.length jg, .slice iY bU.length iZ, .slice gX aC.length eY]] w fun e w' => e = .returned (.bool r) ∧ Below w.heap.size w w' := by
 have CG := Tryz.underlying28
 have oO := ak lZ
 have pG := ak l7
 clear lZ l7
 have rE := ak l9
 have uG := ak mg
 clear l9 mg
 have jm := ak jJ
 have lJ := ak jK
 clear jJ jK
 have HG := ak Bl
 clear Bl
 have HB := ak (Below.refl w.heap.size w)
 unfold kE.f at h; have H := h
 clear h
 replace H := bd H
 obtain ⟨⟨aw1, aw2⟩, A2, H⟩ := H
 (try dsimp only at H)
 obtain rfl := s1 H
 go_enter Tryz.func26, Tryz.ntmps26
 go_wp2_with (first | (refine bX HB 1 #[.slice jf dh.length jg, .slice iY bU.length iZ, .slice gX aC.length eY] 28 ?_; intro aAj w3 ac1 aAk hb; replace HB := bs HB hb; clear hb; have z4 := jW ac1.out) | (refine gV Tryz.func66 (aH.calls k _ _ dh _ _ bU _ _ aC 3 aw1 aw2 _ (cu (Kd.aW oO.out HB.out)) pG.out (cu (Kd.aW rE.out HB.out)) uG.out (cu (Kd.aW jm.out HB.out)) lJ.out ?qc A2.out) ?_; (case qc => first | exact HG.out | exact MaxOk.below HG.out bb | (repeat (first | exact HG.out | apply MaxOk.drewN | apply MaxOk.drew))); rintro aDd w5 ⟨ho0, hb⟩; have aAl := ak (Kd.aA ho0 (aj bb)); replace ac1 := kb ac1 hb; replace HB := bz HB hb; clear hb; (try clear ho0)))
 go_ret
 exact ⟨er, bb⟩
end Go.Proofs.YtncdadcmghglkaaGreatDoor.PFnCountParts
