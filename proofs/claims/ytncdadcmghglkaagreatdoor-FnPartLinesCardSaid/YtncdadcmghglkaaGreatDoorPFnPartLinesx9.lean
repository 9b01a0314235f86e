/- Printed walks; conditions: those in each statement. -/
import Derived.Test.YtncdadcmghglkaaGreatDoorVFnPartLinesQt
import Derived.Test.YtncdadcmghglkaaGreatDoorVFnPartLinesYt
import Derived.Test.YtncdadcmghglkaaGreatDoorPFnPartLinesx0
-- short
-- dense
-- sq
-- sq2
namespace Go.Proofs.YtncdadcmghglkaaGreatDoor.PFnPartLines
open Go.RowKit Go.Proofs.YtncdadcmghglkaaGreatDoor.X Go.Proofs.YtncdadcmghglkaaGreatDoorW.bI Go.Proofs.YtncdadcmghglkaaGreatDoorW.iy Go.Proofs.YtncdadcmghglkaaGreatDoorW.iZ
attribute [local go_sem] kZ lg nK nM jW jX lq lu   -- for this text's walks alone
set_option linter.unusedVariables false
set_option maxHeartbeats 8000000
set_option maxRecDepth 100000
set_option linter.unusedSimpArgs false
mutual
def dI.l0 : Nat → Int → List (gX) → List ByteArray → List (nG) → List (gX) → List ByteArray → List (nG) → Option ((List (gX)) × List ByteArray × (List (nG)))
 | 0, _, _, _, _, _, _, _ => none
 | k + 1, x4, ahq, ahr, J5, aaB, aaC, Uy => if x4 < (J5.length : Int) then (if 0 ≤ x4 then ((dI.f k ((cO J5 x4).f0) ((cO J5 x4).f1) ((cO J5 x4).f2)).bind fun ae0 => (if Uy.length < 1954687338268 then (dI.l0 k (wrap64 (x4 + 1)) ahq ahr J5 aaB aaC (Uy ++ [(⟨ae0.1, ae0.2.1, ae0.2.2⟩ : nG)])) else (none))) else (none)) else (some (aaB, aaC, Uy))
def dI.f : Nat → List (gX) → List ByteArray → List (nG) → Option ((List (gX)) × List ByteArray × (List (nG)))
 | 0, _, _, _ => none
 | k + 1, dY, dK, aH => (some (([] : List (gX)) : List (gX))).bind fun ae1 => (if ae1.length + dY.length < 4398046511104 then ((some (([] : List ByteArray) : List ByteArray)).bind fun ae2 => (if ae2.length + dK.length < 8796093022208 then (dI.l0 k 0 dY dK aH (ae1 ++ dY) (ae2 ++ dK) ([] : List (nG))) else (none))) else (none))
end
def dI.T1 : Bool × List (List Nat × List Nat) := (true, [([], []), ([], []), ([1], [1]), ([0, 2], [0, 2]), ([], []), ([], []), ([5], [5]), ([4, 6, 3], [4, 6]), ([3, 7], [3, 7]), ([], []), ([9, 8, 7, 0, 1, 2, 3, 4, 5, 6, 7, 8, 9], [8, 9])])
def dI.B1 : List Nat := [0, 0, 2, 7, 0, 0, 32, 127, 255, 0, 1023]
theorem dI.apr : rU .any (opsOf Tryz.f110 1) = dI.T1 := by kernel_rfl
theorem dI.aip : nD dI.T1.2 dI.B1 = true := by kernel_rfl
def dI.T5 : Bool × List (List Nat × List Nat) := (true, [([], []), ([0], [0]), ([], []), ([2], [2]), ([], []), ([3, 4], [3, 4]), ([5], [5]), ([6], [6]), ([7], [7]), ([1, 8, 7], [1, 8]), ([0, 1, 2, 3, 4, 5, 6, 7, 8, 9], []), ([10, 9, 9, 0, 1, 2, 3, 4, 5, 6, 7, 8, 9], [9, 10])])
def dI.B5 : List Nat := [0, 1, 0, 4, 0, 28, 60, 124, 252, 511, 1023, 2047]
theorem dI.alP : rU .any (opsOf Tryz.f110 5) = dI.T5 := by kernel_rfl
theorem dI.adu : nD dI.T5.2 dI.B5 = true := by kernel_rfl
theorem dI.calls (k : Nat) : ∀ (jO : Option Addr) (jP : Nat) (dY : List (gX)) (jJ : Option Addr) (jK : Nat) (dK : List ByteArray) (iP : Option Addr) (f_ : Nat) (aH : List (nG)) (r1 : List (gX)) (r2 : List ByteArray) (r3 : List (nG)) (w : World) (oW : Kd.C qI w jO dY.length dY) (oZ : dY.length ≤ jP) (o7 : Kd.C Kd.string w jJ dK.length dK) (o8 : dK.length ≤ jK) (kS : Kd.C k28 w iP aH.length aH) (kT : aH.length ≤ f_) (h : dI.f k dY dK aH = some (r1, r2, r3)),
  Calls Tryz.prog 110 #[.agg #[.slice jO dY.length jP, .slice jJ dK.length jK, .slice iP aH.length f_]] w fun e w' => ∃ oV Di EG : Value, e = .returned (.agg #[oV, Di, EG]) ∧ Kd.R qI 69 w' w.heap.size (fun _ => True) oV r1 ∧ Kd.R Kd.string 9 w' w.heap.size (fun _ => True) Di r2 ∧ Kd.R k28 28 w' w.heap.size (fun k_ => some k_ ≠ (oV : Value).ownBlock ∧ some k_ ≠ (Di : Value).ownBlock) EG r3 ∧ Below w.heap.size w w' := by
 induction k using Nat.strongRecOn with
 | _ k ih =>
 intro jO jP dY jJ jK dK iP f_ aH r1 r2 r3 w oW oZ o7 o8 kS kT h
 cases k with
 | zero => exact absurd h (by simp [dI.f])
 | succ k =>
 simp only [dI.f] at h
 have EH := Tryz.underlying28
 have qB := ak oW
 have qQ := ak oZ
 clear oW oZ
 have tZ := ak o7
 have wP := ak o8
 clear o7 o8
 have jD := ak kS
 have mQ := ak kT
 clear kS kT
 have HB := ak (Below.refl w.heap.size w)
 have H := h
 clear h
 replace H := ny H
 obtain ⟨ae1, avA, H⟩ := H
 replace H := nl H; obtain ⟨ala, H⟩ := H
 obtain ⟨Ij, akY⟩ := nm (ae1 ++ dY)
 rw [← akY.out] at H
 replace H := ny H
 obtain ⟨ae2, avC, H⟩ := H
 replace H := nl H; obtain ⟨abd, H⟩ := H
 obtain ⟨Ik, akZ⟩ := nm (ae2 ++ dK)
 rw [← akZ.out] at H
 have H' := ak H; clear H
 go_enter Tryz.func110, Tryz.ntmps110
 try go_wp2_with (first | (refine bX HB 1 #[.slice jO dY.length jP, .slice jJ dK.length jK, .slice iP aH.length f_] 28 ?_; intro tu w4 kD aDa hb; replace HB := bs HB hb; clear hb) | (refine bY HB 2 #[.slice none 0 0, .slice none 0 0, .slice none 0 0] 28 ?_; intro BN w5 pF aDb hg hb; have RI := Ba kD hg; have RJ := Bc kD hg; replace kD := kb kD hb; replace HB := bz HB hb; clear hb hg))
 replace kD := ak (iQ kD.out)
 replace pF := ak (iQ pF.out)
 replace HB := ak (fQ HB.out)
 refine Ce (n := 11) (S := fun w' => w'.cell? ⟨tu, 0, none⟩ = some (.slice jO dY.length jP) ∧ w'.cell? ⟨tu, 1, none⟩ = some (.slice jJ dK.length jK) ∧ w'.cell? ⟨tu, 2, none⟩ = some (.slice iP aH.length f_)) (ds := []) #[false, false, false, false, false, false, false, false, false, false, false] (by kernel_rfl) rfl rfl ⟨(aA kD.out 0).trans rfl, (aA kD.out 1).trans rfl, (aA kD.out 2).trans rfl⟩ (fun hHeld => ?_); refine tN dI.apr dI.aip (fun D8 HW_ => ?_)
 generalize w5.drew = w6 at kD pF HB hHeld ⊢
 refine pl 1 ?_
 refine pl 5 ?_
 refine tk 2 ?_
 refine tk 6 ?_
 refine acS (σ := Value × Value × Value × Value × Nat) 1 #[true, true, true, true, true, true, true, true, true, true, false] (fun s_ => [(5, s_.1), (8, s_.2.1), (9, s_.2.2.1), (12, s_.2.2.2.1), (3, .pointer (some ⟨s_.2.2.2.2, 0, none⟩)), (13, .agg #[s_.2.1, s_.2.2.2.1, .slice none 0 0])]) (fun s_ w' => (w'.cell? ⟨tu, 0, none⟩ = some (.slice jO dY.length jP) ∧ w'.cell? ⟨tu, 1, none⟩ = some (.slice jJ dK.length jK) ∧ w'.cell? ⟨tu, 2, none⟩ = some (.slice iP aH.length f_)) ∧ (Kd.R qI 69 w' w.heap.size (fun _ => True) s_.2.1 Ij) ∧ (Kd.R Kd.string 9 w' w.heap.size (fun _ => True) s_.2.2.2.1 Ik) ∧ (w'.heap[tu]? = some (.cells #[.slice jO dY.length jP, .slice jJ dK.length jK, .slice iP aH.length f_] 28 (0, 0))) ∧ (w'.heap[BN]? = some (.cells #[.slice none 0 0, .slice none 0 0, .slice none 0 0] 28 (0, 0))) ∧ (w'.heap[s_.2.2.2.2]? = some (.cells #[.slice none 0 0, .slice none 0 0, .slice none 0 0] 28 (0, 0))) ∧ (w.heap.size ≤ s_.2.2.2.2) ∧ (w.heap.size ≤ s_.2.2.2.2) ∧ (tu ≠ s_.2.2.2.2) ∧ (s_.2.2.2.2 ≠ tu) ∧ (BN ≠ s_.2.2.2.2) ∧ (s_.2.2.2.2 ≠ BN) ∧ (Below w.heap.size w w')) ?_ ?_
 rotate_left
 ·
  intro hJ
  repeat' (first
   | (obtain ⟨Gv, Gw, abg⟩ := Kd.aI Ef.out; obtain ⟨Gy, Fa, VN⟩ := Kd.aI Eh.out; subst abg; subst VN; refine pl 8 ?_)
   | exact D9 (by first | (simp only [xX, Act.put, yT, yU, l_c]; done) | (simp only [xX, Act.put, yT, yU, l_c]; rfl)) (hJ (anM, .slice Gv Ij.length Gw, anN, .slice Gy Ik.length Fa, qy) _ ⟨hHeld, Ef.out, Eh.out, kD.out, pF.out, lQ.out, ae3.out, ae3.out, ng.out, wJ.out, yh.out, yj.out, HB.out⟩)
   | ((first | refine th3 0 4 9 ?_ ?_ ?_ | refine th3 3 4 9 ?_ ?_ ?_ | refine tw2 0 4 ?_ ?_ | refine tw2 0 9 ?_ ?_ | refine tw2 3 4 ?_ ?_ | refine tw2 3 9 ?_ ?_ | refine tw2 4 9 ?_ ?_ | refine tw2 7 9 ?_ ?_ | refine o1 0 ?_ | refine o1 3 ?_ | refine o1 4 ?_ | refine o1 7 ?_ | refine o1 9 ?_) <;> (intro K hK; first
    | (refine gn 3 ?_; refine P6 ?hg (N := 3) ?hd (cs := #[.slice none 0 0, .slice none 0 0, .slice none 0 0]) (t := 28) ?hr ?_; (case hd => rfl); (case hg => rfl); (case hr => first | (go_simp; done) | (go_simp; rfl)); intro qy hg w_ hbox hb; have ae3 := ge_ HB hg; have ng := Ba kD hg; have wJ := Bc kD hg; have yh := Ba pF hg; have yj := Bc pF hg; (try replace Am := rb Am hb); (try replace Ef := rb Ef hb); (try replace Ap := rb Ap hb); (try replace Eh := rb Eh hb); replace kD := kb kD hb; replace pF := kb pF hb; replace HB := bs HB hb; have lQ := ak hbox; clear hbox hb hg; refine hK.out _ _ sx (fun hHeld => ?_); clear hK K; refine nrm ?_)
    | (refine gn 5 ?_; refine Kd.qC qI _ 69 ?hg (N := 5) ?hd (xs := ([] : List gX)) (inner := []) (ok := fun _ => True) (vM := fun _ => True) ?hr ?hp (fun _ hk => hk) trivial (Below.refl _ _) (Nat.le_refl _) (by simp) ?_; (case hd => rfl); (case hg => rfl); (case hr => first | (go_simp; done) | (go_simp; rfl)); (case hp => exact (dh.none _ _)); intro anM w_ ho hb _ _; rw [← avA.out] at ho; replace ho := Kd.aC ho (aj (ul HB.out)); (try replace Am := rb Am hb); (try replace Ef := rb Ef hb); (try replace Ap := rb Ap hb); (try replace Eh := rb Eh hb); (try replace lQ := kb lQ hb); replace kD := kb kD hb; replace pF := kb pF hb; replace HB := bs HB hb; have Am := ak ho; clear ho hb; refine hK.out _ _ sx (fun hHeld => ?_); clear hK K; refine nrm ?_)
    | (refine gn 9 ?_; refine Kd.qC Kd.string _ 9 ?hg (N := 9) ?hd (xs := ([] : List ByteArray)) (inner := []) (ok := fun _ => True) (vM := fun _ => True) ?hr ?hp (fun _ hk => hk) trivial (Below.refl _ _) (Nat.le_refl _) (by simp) ?_; (case hd => rfl); (case hg => rfl); (case hr => first | (go_simp; done) | (go_simp; rfl)); (case hp => exact (dh.none _ _)); intro anN w_ ho hb _ _; rw [← avC.out] at ho; replace ho := Kd.aC ho (aj (ul HB.out)); (try replace Am := rb Am hb); (try replace Ef := rb Ef hb); (try replace Ap := rb Ap hb); (try replace Eh := rb Eh hb); (try replace lQ := kb lQ hb); replace kD := kb kD hb; replace pF := kb pF hb; replace HB := bs HB hb; have Ap := ak ho; clear ho hb; refine hK.out _ _ sx (fun hHeld => ?_); clear hK K; refine nrm ?_)
    | (refine gn 8 ?_; refine Kd.sW qI (w0 := w) w.heap.size (by rfl) (.tmp 5) (.tmp 7) 25 69 (.agg #[(.string ⟨#[]⟩), (.string ⟨#[]⟩)]) 32 rfl Tryz.underlying25 Cc rfl (by decide) (by omega) anM ae1 dY _ _ _ (fun _ => True) (fun _ => False) rfl rfl Am.out (Kd.bf qB.out HB.out) (fun _ _ h => h) (fun _ h => h.elim) (fun _ _ => trivial) HB.out (aj HB.out) (by have := ala.out; omega) ?_; intro avD w_ ho hb hg hat; rw [← akY.out] at ho; (try replace Ap := ak (Kd.qc Ap.out (Kd.kG Am.out) (by decide) hg)); (try replace Eh := ak (Kd.qc Eh.out (Kd.kG Am.out) (by decide) hg)); (try replace lQ := ak (cZ lQ.out hg (Kd.oG Am.out lQ.out (by decide)))); replace kD := ak (cZ kD.out hg (Kd.oG Am.out kD.out (by decide))); replace pF := ak (cZ pF.out hg (Kd.oG Am.out pF.out (by decide))); replace HB := ak hb; have Ef := ak ho; clear Am ho hb hg hat; refine hK.out _ _ sx (fun hHeld => ?_); clear hK K; refine nrm ?_)
    | (refine gn 12 ?_; refine Kd.sW Kd.string (w0 := w) w.heap.size (by rfl) (.tmp 9) (.tmp 11) 23 9 (.string ⟨#[]⟩) 16 rfl Tryz.underlying23 info9 rfl (by decide) (by omega) anN ae2 dK _ _ _ (fun _ => True) (fun _ => False) rfl rfl Ap.out (Kd.bf tZ.out HB.out) (fun _ _ h => h) (fun _ h => h.elim) (fun _ _ => trivial) HB.out (aj HB.out) (by have := abd.out; omega) ?_; intro avE w_ ho hb hg hat; rw [← akZ.out] at ho; (try replace Am := ak (Kd.qc Am.out (Kd.kG Ap.out) (by decide) hg)); (try replace Ef := ak (Kd.qc Ef.out (Kd.kG Ap.out) (by decide) hg)); (try replace lQ := ak (cZ lQ.out hg (Kd.oG Ap.out lQ.out (by decide)))); replace kD := ak (cZ kD.out hg (Kd.oG Ap.out kD.out (by decide))); replace pF := ak (cZ pF.out hg (Kd.oG Ap.out pF.out (by decide))); replace HB := ak hb; have Eh := ak ho; clear Ap ho hb hg hat; refine hK.out _ _ sx (fun hHeld => ?_); clear hK K; refine nrm ?_))))
 rintro ⟨anM, avD, anN, avE, qy⟩ w16 ⟨hS_, h0_, h1_, Y0, h3_, h4_, h5_, h6_, h7_, h8_, h9_, Tn, abL⟩
 have yQ : ah (Kd.R qI 69 w16 w.heap.size (fun _ => True) avD Ij) := ⟨h0_⟩
 have yR : ah (Kd.R Kd.string 9 w16 w.heap.size (fun _ => True) avE Ik) := ⟨h1_⟩
 have zB : ah (w16.heap[tu]? = some (.cells #[.slice jO dY.length jP, .slice jJ dK.length jK, .slice iP aH.length f_] 28 (0, 0))) := ⟨Y0⟩
 have CJ : ah (w16.heap[BN]? = some (.cells #[.slice none 0 0, .slice none 0 0, .slice none 0 0] 28 (0, 0))) := ⟨h3_⟩
 have GX : ah (w16.heap[qy]? = some (.cells #[.slice none 0 0, .slice none 0 0, .slice none 0 0] 28 (0, 0))) := ⟨h4_⟩
 have IZ : ah (w.heap.size ≤ qy) := ⟨h5_⟩
 have MN : ah (w.heap.size ≤ qy) := ⟨h6_⟩
 have Rh : ah (tu ≠ qy) := ⟨h7_⟩
 have U8 : ah (qy ≠ tu) := ⟨h8_⟩
 have YZ : ah (BN ≠ qy) := ⟨h9_⟩
 have O7 : ah (qy ≠ BN) := ⟨Tn⟩
 have aeF : ah (Below w.heap.size w w16) := ⟨abL⟩
 clear kD pF HB h0_ h1_ Y0 h3_ h4_ h5_ h6_ h7_ h8_ h9_ Tn abL
 have Ef := yQ
 have Eh := yR
 have kD := zB
 have pF := CJ
 have lQ := GX
 have ae3 := IZ
 have aDc := MN
 have ng := Rh
 have wJ := U8
 have yh := YZ
 have yj := O7
 have HB := aeF
 clear yQ yR zB CJ GX IZ MN Rh U8 YZ O7 aeF
 have hHeld : w16.cell? ⟨tu, 0, none⟩ = some (.slice jO dY.length jP) ∧ w16.cell? ⟨tu, 1, none⟩ = some (.slice jJ dK.length jK) ∧ w16.cell? ⟨tu, 2, none⟩ = some (.slice iP aH.length f_) := hS_
 obtain ⟨Gy, Fa, VN⟩ := Kd.aI Eh.out
 (first | subst VN | (injection VN with oM uz oN; have uD := oM.symm; have uF := oN.symm; clear oM uz oN; subst uD; subst uF))
 obtain ⟨Gv, Gw, abg⟩ := Kd.aI Ef.out
 (first | subst abg | (injection abg with oM uz oN; have uD := oM.symm; have uF := oN.symm; clear oM uz oN; subst uD; subst uF))
 refine D9 (a' := ?_) ?_ ?_
 rotate_left
 ·
  simp only [xX, Act.put, yT, yU, l_c]
  rfl
 refine o1 10 (fun K hK => ?_)
 have aJc : w16.cell? ⟨qy, 0, none⟩ = some (.slice none 0 0) := (aA lQ.out 0).trans rfl
 have aDd := gY lQ.out 0
 have aw1 := ng.out
 have aw2 := yh.out
 have aw3 := wJ.out
 have aw4 := yj.out
 have aJd : w16.cell? ⟨qy, 1, none⟩ = some (.slice none 0 0) := (aA lQ.out 1).trans rfl
 have aDe := gY lQ.out 1
 have aw5 := ng.out
 have aw6 := yh.out
 have aw7 := wJ.out
 have aw8 := yj.out
 have aJe : w16.cell? ⟨qy, 2, none⟩ = some (.slice none 0 0) := (aA lQ.out 2).trans rfl
 have aDf := gY lQ.out 2
 have aw9 := ng.out
 have aw_ := yh.out
 have axa := wJ.out
 have axb := yj.out
 refine GZ (w1 := ?_) (by rfl) rfl ?_ ?_
 rotate_left
 ·
  go_simp
  rfl
 refine hK.out _ _ ⟨((cell_far (p := ⟨qy, _, none⟩) ng.out _).trans (((cell_far (p := ⟨qy, _, none⟩) ng.out _).trans (((cell_far (p := ⟨qy, _, none⟩) ng.out _).trans (hHeld.1)))))), ((cell_far (p := ⟨qy, _, none⟩) ng.out _).trans (((cell_far (p := ⟨qy, _, none⟩) ng.out _).trans (((cell_far (p := ⟨qy, _, none⟩) ng.out _).trans (hHeld.2.1)))))), ((cell_far (p := ⟨qy, _, none⟩) ng.out _).trans (((cell_far (p := ⟨qy, _, none⟩) ng.out _).trans (((cell_far (p := ⟨qy, _, none⟩) ng.out _).trans (hHeld.2.2))))))⟩ (fun hHeld => ?_)
 clear hK K
 refine G5 (yA D8.out (by kernel_rfl)) ?_
 try go_wp2
 go_loopg [4] k (fun kq v4 w' => ∃ (eP : Int) (zX : List (nG)) (yE : Value), v4 = .int .i64 eP ∧ ah (dI.l0 kq eP dY dK aH Ij Ik zX = some (r1, r2, r3)) ∧ ah (kq ≤ k) ∧ ah (Kd.R qI 69 w' w.heap.size (fun _ => True) (.slice Gv Ij.length Gw) Ij) ∧ ah (Kd.R Kd.string 9 w' w.heap.size (fun _ => True) (.slice Gy Ik.length Fa) Ik) ∧ ah (Kd.R k28 28 w' w.heap.size (fun k_ => some k_ ≠ ((.slice Gv Ij.length Gw) : Value).ownBlock ∧ some k_ ≠ ((.slice Gy Ik.length Fa) : Value).ownBlock ∧ k_ ≠ tu ∧ k_ ≠ BN ∧ k_ ≠ qy) yE zX) ∧ ah (w'.heap[tu]? = some (.cells #[(.slice jO dY.length jP), (.slice jJ dK.length jK), (.slice iP aH.length f_)] 28 (0, 0))) ∧ ah (w'.heap[BN]? = some (.cells #[(.slice none 0 0), (.slice none 0 0), (.slice none 0 0)] 28 (0, 0))) ∧ ah (w'.heap[qy]? = some (.cells #[(.slice Gv Ij.length Gw), (.slice Gy Ik.length Fa), yE] 28 (0, 0))) ∧ ah (Below w.heap.size w w'))
 case atStart => exact ⟨_, _, _, rs, H', ⟨Nat.le_refl _⟩, ⟨rr⟩, ⟨rr⟩, ⟨nx⟩, ⟨bq⟩, ⟨bq⟩, ⟨bq⟩, ⟨bb⟩⟩
 case round =>
  clear H'
  obtain ⟨eP, zX, yE, rfl, HA, xI, qN, qO, nX, kD, pF, lQ, HB⟩ := hrel
  cases gk with
  | zero => exact zz HA.out
  | succ k1 =>
   obtain ⟨H⟩ := HA
   simp only [dI.l0] at H
   replace H := sd H
   rcases H with ⟨ES, H⟩ | ⟨ES, H⟩
   ·
    replace H := oq H; obtain ⟨Ad, H⟩ := H; replace H := bd H
    obtain ⟨⟨ae4, ae5, ae6⟩, Xp, H⟩ := H
    (try dsimp only at H)
    replace H := nl H; obtain ⟨VI, H⟩ := H
    obtain ⟨aJf, ak0⟩ := nm (zX ++ [(⟨ae4, ae5, ae6⟩ : nG)])
    rw [← ak0.out] at H
    have H' := ak H; clear H
    have avv := RI.out
    have avw := RJ.out
    have ajD := ng.out
    have ajE := wJ.out
    have aJv := kK kD.out
    try go_wp2
    replace qN := ak (Kd.fV qN.out)
    replace qO := ak (Kd.fV qO.out)
    replace nX := ak (Kd.fV nX.out)
    replace kD := ak (iQ kD.out)
    replace pF := ak (iQ pF.out)
    replace lQ := ak (iQ lQ.out)
    replace HB := ak (fQ HB.out)
    have anO := zi eP
    have anP := zj eP aH.length
    obtain ⟨J6, ae7, ae8, ae9, ae_, afa, afb, aAe, OD, OE, OG, aaD, aaE, aaF, aaG, aaH, aaI⟩ := EF jD.out eP anO anP
    have yF := OG
    have yG := OE
    have yH := OD
    cases aAe
    replace OD := cl HB.out OD
    replace OE := cl HB.out OE
    replace OG := cl HB.out OG
    have aaJ := ak aaE
    have ahs := ak aaD
    clear aaE aaD
    have aaK := ak aaG
    have aht := ak aaF
    clear aaG aaF
    have aaL := ak aaI
    have ahu := ak aaH
    clear aaI aaH
    replace anO := eq_true anO
    replace anP := eq_true anP
    refine Ce (n := 12) (S := fun w' => w'.cell? ⟨qy, 0, none⟩ = some (.slice Gv Ij.length Gw) ∧ w'.cell? ⟨qy, 1, none⟩ = some (.slice Gy Ik.length Fa) ∧ w'.cell? ⟨qy, 2, none⟩ = some (yE) ∧ w'.cell? ⟨tu, 0, none⟩ = some (.slice jO dY.length jP) ∧ w'.cell? ⟨tu, 1, none⟩ = some (.slice jJ dK.length jK) ∧ w'.cell? ⟨tu, 2, none⟩ = some (.slice (some J6) aH.length f_) ∧ w'.cell? (J6.add ((eP).toNat * 3)) = some (.slice ae7 ((cO aH eP).f0).length ae8) ∧ w'.cell? ⟨(J6.add ((eP).toNat * 3)).block, (J6.add ((eP).toNat * 3)).off + 1, none⟩ = some (.slice ae9 ((cO aH eP).f1).length ae_) ∧ w'.cell? ⟨(J6.add ((eP).toNat * 3)).block, (J6.add ((eP).toNat * 3)).off + 2, none⟩ = some (.slice afa ((cO aH eP).f2).length afb)) (ds := [11]) #[false, false, false, false, false, false, false, false, false, false, false, false] (by kernel_rfl) rfl rfl ⟨(aA lQ.out 0).trans rfl, (aA lQ.out 1).trans rfl, (aA lQ.out 2).trans rfl, (aA kD.out 0).trans rfl, (aA kD.out 1).trans rfl, (aA kD.out 2).trans rfl, ((HB.out.cell (World.block_lt_of_cell? w _ yH)).trans yH), ((HB.out.cell (World.block_lt_of_cell? w _ yG)).trans yG), ((HB.out.cell (World.block_lt_of_cell? w _ yF)).trans yF)⟩ (fun hHeld => ?_); refine tN dI.alP dI.adu (fun D8 HW_ => ?_)
    generalize wr.drew = w29 at qN qO nX kD pF lQ HB aaJ aaK aaL OD OE OG hHeld ⊢
    refine pl 0 ?_
    refine pl 2 ?_
    refine pl 4 ?_
    refine tk 1 ?_
    refine tk 3 ?_
    refine pl 5 ?_
    refine tk 6 ?_
    refine o1 7 (fun K hK => ?_)
    refine yN Tryz.func110 (by kernel_rfl) rfl #[.agg #[.slice ae7 ((cO aH eP).f0).length ae8, .slice ae9 ((cO aH eP).f1).length ae_, .slice afa ((cO aH eP).f2).length afb]] (by rfl) rfl rfl ma ?_
    with_reducible refine (ih k1 (by have := xI.out; omega) _ _ ((cO aH eP).f0) _ _ ((cO aH eP).f1) _ _ ((cO aH eP).f2) ae4 ae5 ae6 _ ?fZ ?jc ?yO ?CG ?yP ?avF Xp.out).mono ?_
    (case fZ => repeat (first | exact (Kd.bf aaJ.out HB.out) | (with_reducible refine Kd.ni ?_ _) | (with_reducible refine Kd.nC ?_ _) | (with_reducible refine Kd.pY ?_)))
    (case jc => exact ahs.out)
    (case yO => repeat (first | exact (Kd.bf aaK.out HB.out) | (with_reducible refine Kd.ni ?_ _) | (with_reducible refine Kd.nC ?_ _) | (with_reducible refine Kd.pY ?_)))
    (case CG => exact aht.out)
    (case yP => repeat (first | exact (Kd.bf aaL.out HB.out) | (with_reducible refine Kd.ni ?_ _) | (with_reducible refine Kd.nC ?_ _) | (with_reducible refine Kd.pY ?_)))
    (case avF => exact ahu.out)
    rintro e w30 ⟨aJg, aJh, aJi, rfl, ho0, ho1, ho2, hb⟩
    refine ⟨_, rfl, ?_⟩
    have afc := ak (Kd.aC (Kd.dR ho0 (Kd.jh (ur qN.out))) (aj bb))
    have afd := ak (Kd.aC (Kd.dR ho1 (Kd.jh (ur qO.out))) (aj bb))
    have afe := ak (Kd.aC (Kd.nH (Kd.nH (Kd.nH (Kd.dR (Kd.dR (Kd.dR ho2 (Kd.jh (ur qN.out))) (Kd.jh (ur qO.out))) (Kd.jh (ur nX.out))) (g := tu) (o := .cells #[.slice jO dY.length jP, .slice jJ dK.length jK, .slice (some J6) aH.length f_] 28 (0, 0)) (ub kD.out)) (g := BN) (o := .cells #[.slice none 0 0, .slice none 0 0, .slice none 0 0] 28 (0, 0)) (ub pF.out)) (g := qy) (o := .cells #[.slice Gv Ij.length Gw, .slice Gy Ik.length Fa, yE] 28 (0, 0)) (ub lQ.out)) (aj bb))
    replace qN := ak (Kd.bH (ur qN.out) (Kd.bZ ho0) hb)
    replace qO := ak (Kd.bH (ur qO.out) (Kd.bZ ho1) hb)
    replace nX := ak (Kd.aY (Kd.sS (Kd.sS (Kd.sS (Kd.acD (ur nX.out) hb) (Kd.bZ ho0)) (Kd.bZ ho1)) (Kd.bZ ho2)) (fun _ h_ => h_.1))
    replace kD := kb kD hb
    replace pF := kb pF hb
    replace lQ := kb lQ hb
    replace HB := bz HB hb
    try clear hb
    try clear ho0
    try clear ho1
    try clear ho2
    obtain ⟨aAf, aAg, avG⟩ := Kd.aI afc.out
    (first | subst avG | (injection avG with oM uz oN; have uD := oM.symm; have uF := oN.symm; clear oM uz oN; subst uD; subst uF))
    obtain ⟨V9, V_, aeG⟩ := Kd.aI afd.out
    (first | subst aeG | (injection aeG with oM uz oN; have uD := oM.symm; have uF := oN.symm; clear oM uz oN; subst uD; subst uF))
    obtain ⟨as1, as2, aed⟩ := Kd.aI afe.out
    (first | subst aed | (injection aed with oM uz oN; have uD := oM.symm; have uF := oN.symm; clear oM uz oN; subst uD; subst uF))
    refine hK.out _ _ ⟨(aA lQ.out 0).trans rfl, (aA lQ.out 1).trans rfl, (aA lQ.out 2).trans rfl, (aA kD.out 0).trans rfl, (aA kD.out 1).trans rfl, (aA kD.out 2).trans rfl, ((HB.out.cell (World.block_lt_of_cell? w _ yH)).trans yH), ((HB.out.cell (World.block_lt_of_cell? w _ yG)).trans yG), ((HB.out.cell (World.block_lt_of_cell? w _ yF)).trans yF)⟩ (fun hHeld => ?_)
    clear hK K
    refine nrm ?_
    refine o1 8 (fun K hK => ?_)
    refine Ci (w1 := ?_) (v := ?_) (by rfl) rfl ?_ ?_
    rotate_left 2
    ·
     go_simp
     constructor
     ·
      rfl
     ·
      rfl
    refine hK.out _ _ ⟨(aA (iV lQ.out _) 0).trans rfl, (aA (iV lQ.out _) 1).trans rfl, (aA (iV lQ.out _) 2).trans rfl, (aA (iV kD.out _) 0).trans rfl, (aA (iV kD.out _) 1).trans rfl, (aA (iV kD.out _) 2).trans rfl, (World.cell?_alloc_lt _ _ _ (World.block_lt_of_cell? _ _ (((HB.out.cell (World.block_lt_of_cell? w _ yH)).trans yH)))).trans (((HB.out.cell (World.block_lt_of_cell? w _ yH)).trans yH)), (World.cell?_alloc_lt _ _ _ (World.block_lt_of_cell? _ _ (((HB.out.cell (World.block_lt_of_cell? w _ yG)).trans yG)))).trans (((HB.out.cell (World.block_lt_of_cell? w _ yG)).trans yG)), (World.cell?_alloc_lt _ _ _ (World.block_lt_of_cell? _ _ (((HB.out.cell (World.block_lt_of_cell? w _ yF)).trans yF)))).trans (((HB.out.cell (World.block_lt_of_cell? w _ yF)).trans yF))⟩ (fun hHeld => ?_)
    clear hK K
    refine nrm ?_
    refine o1 9 (fun K hK => ?_)
    refine Kd.nJ k28 (w0 := w) w.heap.size (by rfl) (.tmp 22) (.tmp 29) 26 28 (.agg #[(.slice none 0 0), (.slice none 0 0), (.slice none 0 0)]) 72 rfl Tryz.underlying26 SN rfl (by decide) (by omega) yE zX (⟨ae4, ae5, ae6⟩ : nG) [.slice aAf ae4.length aAg, .slice V9 ae5.length V_, .slice as1 ae6.length as2] (fun k_ => some k_ ≠ (.slice Gv Ij.length Gw : Value).ownBlock ∧ some k_ ≠ (.slice Gy Ik.length Fa : Value).ownBlock ∧ k_ ≠ tu ∧ k_ ≠ BN ∧ k_ ≠ qy) (fun k_ => ((fun k_ => some k_ ≠ (.slice Gv Ij.length Gw : Value).ownBlock ∧ some k_ ≠ (.slice Gy Ik.length Fa : Value).ownBlock ∧ k_ ≠ tu ∧ k_ ≠ BN ∧ k_ ≠ qy)) k_ ∧ some k_ ≠ (yE : Value).ownBlock) rfl rfl ?aP (fun _ hk => hk) ?aF ?aO ?aB ?aS ?aL ?_
    (case aP => exact Oi _ _ _ (⟨ae4, ae5, ae6⟩ : nG) (Kd.aY (Kd.lV (Kd.lV (Kd.lV (Kd.oK (Kd.oK (afc.out) (Kd.kG qO.out) (by decide)) (Kd.kG nX.out) (by decide)) kD.out (by decide)) pF.out (by decide)) lQ.out (by decide)) (fun k_ hk => ⟨⟨hk.1.1.1.1.1.2, ⟨hk.1.1.1.1.2, ⟨hk.1.1.2, ⟨hk.1.2, hk.2⟩⟩⟩⟩, hk.1.1.1.2⟩)) (Kd.aY (Kd.lV (Kd.lV (Kd.lV (Kd.oK (Kd.oK (afd.out) (Kd.kG qN.out) (by decide)) (Kd.kG nX.out) (by decide)) kD.out (by decide)) pF.out (by decide)) lQ.out (by decide)) (fun k_ hk => ⟨⟨hk.1.1.1.1.2, ⟨hk.1.1.1.1.1.2, ⟨hk.1.1.2, ⟨hk.1.2, hk.2⟩⟩⟩⟩, hk.1.1.1.2⟩)) (Kd.aY (afe.out) (fun k_ hk => ⟨⟨hk.1.1.1.1.1.2, ⟨hk.1.1.1.1.2, ⟨hk.1.1.2, ⟨hk.1.2, hk.2⟩⟩⟩⟩, hk.1.1.1.2⟩)))
    (case aB => exact bb)
    (case aF => exact (fun k_ hk => ⟨Kd.fresh' (Kd.jh (ur qN.out)) k_ hk, Kd.fresh' (Kd.jh (ur qO.out)) k_ hk, Kd.xQ (g := tu) (o := .cells #[.slice jO dY.length jP, .slice jJ dK.length jK, .slice (some J6) aH.length f_] 28 (0, 0)) (ub kD.out) k_ hk, Kd.xQ (g := BN) (o := .cells #[.slice none 0 0, .slice none 0 0, .slice none 0 0] 28 (0, 0)) (ub pF.out) k_ hk, Kd.xQ (g := qy) (o := .cells #[.slice Gv Ij.length Gw, .slice Gy Ik.length Fa, yE] 28 (0, 0)) (ub lQ.out) k_ hk⟩))
    (case aO => exact (ur (Kd.aY nX.out (fun _ hk => ⟨hk.1.1.1.1, ⟨hk.1.1.1.2.1, ⟨hk.1.1.1.2.2.1, ⟨hk.1.1.1.2.2.2.1, hk.1.1.1.2.2.2.2⟩⟩⟩⟩))))
    (case aS => exact (aj bb))
    (case aL => have := VI.out; omega)
    intro aJj w31 ho hb hg hat
    rw [← ak0.out] at ho
    have yQ := ak (Kd.qc (ur qN.out) (Kd.kG (ur nX.out)) (by decide) hg)
    have yR := ak (Kd.qc (ur qO.out) (Kd.kG (ur nX.out)) (by decide) hg)
    have zB := ak (cZ (g := tu) (o := .cells #[.slice jO dY.length jP, .slice jJ dK.length jK, .slice (some J6) aH.length f_] 28 (0, 0)) (ub kD.out) hg (Kd.y8 nX.out (fun _ hk => hk.1.1.1.2.2.1)))
    have CJ := ak (cZ (g := BN) (o := .cells #[.slice none 0 0, .slice none 0 0, .slice none 0 0] 28 (0, 0)) (ub pF.out) hg (Kd.y8 nX.out (fun _ hk => hk.1.1.1.2.2.2.1)))
    have GX := ak (cZ (g := qy) (o := .cells #[.slice Gv Ij.length Gw, .slice Gy Ik.length Fa, yE] 28 (0, 0)) (ub lQ.out) hg (Kd.y8 nX.out (fun _ hk => hk.1.1.1.2.2.2.2)))
    have IZ := ak (hb)
    have MN := ak (ho)
    clear qN qO kD pF lQ HB nX afc afd afe
    have qN := yQ
    have qO := yR
    have kD := zB
    have pF := CJ
    have lQ := GX
    have HB := IZ
    have avH := MN
    clear yQ yR zB CJ GX IZ MN ho hb hg hat
    obtain ⟨aJk, aJl, avI⟩ := Kd.aI avH.out
    (first | subst avI | (injection avI with oM uz oN; have uD := oM.symm; have uF := oN.symm; clear oM uz oN; subst uD; subst uF))
    refine hK.out _ _ ⟨(aA lQ.out 0).trans rfl, (aA lQ.out 1).trans rfl, (aA lQ.out 2).trans rfl, (aA kD.out 0).trans rfl, (aA kD.out 1).trans rfl, (aA kD.out 2).trans rfl, ((HB.out.cell (World.block_lt_of_cell? w _ yH)).trans yH), ((HB.out.cell (World.block_lt_of_cell? w _ yG)).trans yG), ((HB.out.cell (World.block_lt_of_cell? w _ yF)).trans yF)⟩ (fun hHeld => ?_)
    clear hK K
    refine nrm ?_
    refine pl 10 ?_
    refine GY (i := 11) (N := none) #[true, true, true, true, true, true, true, true, true, true, true, true] rfl rfl (Ac D8.out (by kernel_rfl)) (by decide) (fun K hK => ?_)
    have azK : w31.cell? ⟨qy, 2, none⟩ = some (yE) := (aA lQ.out 2).trans rfl
    have au7 := gY lQ.out 2
    have ahh := ng.out
    have ahi := yh.out
    have ahj := wJ.out
    have ahk := yj.out
    refine GZ (w1 := ?_) (by rfl) rfl ?_ ?_
    rotate_left
    ·
     go_simp
     rfl
    refine hK.out _ _ ?_
    clear hK K
    refine G5 (yA D8.out (by kernel_rfl)) ?_
    try go_wp2
    go_roundg k1
    case measure => exact kl
    case rel => exact ⟨_, _, _, rs, H', ⟨kl⟩, ⟨rr⟩, ⟨rr⟩, ⟨rr⟩, ⟨bq⟩, ⟨bq⟩, ⟨bq⟩, ⟨bb⟩⟩
   ·
    obtain ⟨rfl, rfl, rfl⟩ := s3 H
    have au8 := RI.out
    have au9 := RJ.out
    have au_ := ng.out
    have ava := wJ.out
    have z39 := kK kD.out
    have aib := yj.out
    have aic := yh.out
    have aJw := kK lQ.out
    have z42 := kK pF.out
    obtain ⟨aAh, aAi, aAj⟩ := Kd.aI nX.out
    subst aAj
    go_wp2
    refine bodyPost_ret (results_cell_row rfl _ _ BN 28 #[.slice Gv Ij.length Gw, .slice Gy Ik.length Fa, .slice aAh zX.length aAi] (0, 0) _ rfl bq Tryz.underlying28 rfl (by kernel_rfl)) rfl ?_
    exact ⟨_, _, _, er, rr, rr, rr, bb⟩
end Go.Proofs.YtncdadcmghglkaaGreatDoor.PFnPartLines
