/- Printed walks; conditions: those in each statement. -/
import Derived.Test.YtncdadcmghglkaaGreatDoorVFnCountPartsQt
import Derived.Test.YtncdadcmghglkaaGreatDoorVFnCountPartsYt
import Derived.Test.YtncdadcmghglkaaGreatDoorPFnCountPartsx0
-- short
-- dense
-- sq
-- sq2
namespace Go.Proofs.YtncdadcmghglkaaGreatDoor.PFnCountParts
open Go.RowKit Go.Proofs.YtncdadcmghglkaaGreatDoor.X Go.Proofs.YtncdadcmghglkaaGreatDoorW.bI Go.Proofs.YtncdadcmghglkaaGreatDoorW.gI Go.Proofs.YtncdadcmghglkaaGreatDoorW.iL
attribute [local go_sem] kN kP mF mG jB jC kQ kR   -- for this text's walks alone
set_option linter.unusedVariables false
set_option maxHeartbeats 8000000
set_option maxRecDepth 100000
set_option linter.unusedSimpArgs false
mutual
def dI.l0 : Nat → Int → List (gY) → List ByteArray → List (nG) → List (gY) → List ByteArray → List (nG) → Option ((List (gY)) × List ByteArray × (List (nG)))
 | 0, _, _, _, _, _, _, _ => none
 | k + 1, x4, ahq, ahr, JJ, aas, aat, Uk => if x4 < (JJ.length : Int) then (if 0 ≤ x4 then ((dI.f k ((bK JJ x4).f0) ((bK JJ x4).f1) ((bK JJ x4).f2)).bind fun aei => (if Uk.length < 1954687338268 then (dI.l0 k (wrap64 (x4 + 1)) ahq ahr JJ aas aat (Uk ++ [(⟨aei.1, aei.2.1, aei.2.2⟩ : nG)])) else (none))) else (none)) else (some (aas, aat, Uk))
def dI.f : Nat → List (gY) → List ByteArray → List (nG) → Option ((List (gY)) × List ByteArray × (List (nG)))
 | 0, _, _, _ => none
 | k + 1, dh, bU, aC => (some (([] : List (gY)) : List (gY))).bind fun aej => (if aej.length + dh.length < 4398046511104 then ((some (([] : List ByteArray) : List ByteArray)).bind fun aek => (if aek.length + bU.length < 8796093022208 then (dI.l0 k 0 dh bU aC (aej ++ dh) (aek ++ bU) ([] : List (nG))) else (none))) else (none))
end
def dI.T1 : Bool × List (List Nat × List Nat) := (true, [([], []), ([], []), ([1], [1]), ([0, 2], [0, 2]), ([], []), ([], []), ([5], [5]), ([4, 6, 3], [4, 6]), ([3, 7], [3, 7]), ([], []), ([9, 8, 7, 0, 1, 2, 3, 4, 5, 6, 7, 8, 9], [8, 9])])
def dI.B1 : List Nat := [0, 0, 2, 7, 0, 0, 32, 127, 255, 0, 1023]
theorem dI.aqC : sJ .any (opsOf Tryz.f110 1) = dI.T1 := by kernel_rfl
theorem dI.ajd : nV dI.T1.2 dI.B1 = true := by kernel_rfl
def dI.T5 : Bool × List (List Nat × List Nat) := (true, [([], []), ([0], [0]), ([], []), ([2], [2]), ([], []), ([3, 4], [3, 4]), ([5], [5]), ([6], [6]), ([7], [7]), ([1, 8, 7], [1, 8]), ([0, 1, 2, 3, 4, 5, 6, 7, 8, 9], []), ([10, 9, 9, 0, 1, 2, 3, 4, 5, 6, 7, 8, 9], [9, 10])])
def dI.B5 : List Nat := [0, 1, 0, 4, 0, 28, 60, 124, 252, 511, 1023, 2047]
theorem dI.am_ : sJ .any (opsOf Tryz.f110 5) = dI.T5 := by kernel_rfl
theorem dI.ael : nV dI.T5.2 dI.B5 = true := by kernel_rfl
theorem dI.calls (k : Nat) : ∀ (jf : Option Addr) (jg : Nat) (dh : List (gY)) (iY : Option Addr) (iZ : Nat) (bU : List ByteArray) (gX : Option Addr) (eY : Nat) (aC : List (nG)) (r1 : List (gY)) (r2 : List ByteArray) (r3 : List (nG)) (w : World) (lZ : Kd.C qJ w jf dh.length dh) (l7 : dh.length ≤ jg) (l9 : Kd.C Kd.string w iY bU.length bU) (mg : bU.length ≤ iZ) (jJ : Kd.C k28 w gX aC.length aC) (jK : aC.length ≤ eY) (h : dI.f k dh bU aC = some (r1, r2, r3)),
  Calls Tryz.prog 110 #[.agg #[.slice jf dh.length jg, .slice iY bU.length iZ, .slice gX aC.length eY]] w fun e w' => ∃ qj Dq EK : Value, e = .returned (.agg #[qj, Dq, EK]) ∧ Kd.R qJ 69 w' w.heap.size (fun _ => True) qj r1 ∧ Kd.R Kd.string 9 w' w.heap.size (fun _ => True) Dq r2 ∧ Kd.R k28 28 w' w.heap.size (fun k_ => some k_ ≠ (qj : Value).ownBlock ∧ some k_ ≠ (Dq : Value).ownBlock) EK r3 ∧ Below w.heap.size w w' := by
 induction k using Nat.strongRecOn with
 | _ k ih =>
 intro jf jg dh iY iZ bU gX eY aC r1 r2 r3 w lZ l7 l9 mg jJ jK h
 cases k with
 | zero => exact absurd h (by simp [dI.f])
 | succ k =>
 simp only [dI.f] at h
 have CG := Tryz.underlying28
 have oO := ak lZ
 have pG := ak l7
 clear lZ l7
 have rE := ak l9
 have uG := ak mg
 clear l9 mg
 have jm := ak jJ
 have lJ := ak jK
 clear jJ jK
 have HB := ak (Below.refl w.heap.size w)
 have H := h
 clear h
 replace H := ny H
 obtain ⟨aej, as5, H⟩ := H
 replace H := nl H; obtain ⟨aln, H⟩ := H
 obtain ⟨Ic, akm⟩ := nm (aej ++ dh)
 rw [← akm.out] at H
 replace H := ny H
 obtain ⟨aek, as6, H⟩ := H
 replace H := nl H; obtain ⟨abq, H⟩ := H
 obtain ⟨Ie, akn⟩ := nm (aek ++ bU)
 rw [← akn.out] at H
 have H' := ak H; clear H
 go_enter Tryz.func110, Tryz.ntmps110
 try go_wp2_with (first | (refine bX HB 1 #[.slice jf dh.length jg, .slice iY bU.length iZ, .slice gX aC.length eY] 28 ?_; intro uj w4 kL aB2 hb; replace HB := bs HB hb; clear hb) | (refine bY HB 2 #[.slice none 0 0, .slice none 0 0, .slice none 0 0] 28 ?_; intro BH w5 pK aB3 hg hb; have RD := AZ kL hg; have RF := A_ kL hg; replace kL := kb kL hb; replace HB := bz HB hb; clear hb hg))
 replace kL := ak (bn kL.out)
 replace pK := ak (bn pK.out)
 replace HB := ak (iH HB.out)
 refine Ci (n := 11) (S := fun w' => w'.cell? ⟨uj, 0, none⟩ = some (.slice jf dh.length jg) ∧ w'.cell? ⟨uj, 1, none⟩ = some (.slice iY bU.length iZ) ∧ w'.cell? ⟨uj, 2, none⟩ = some (.slice gX aC.length eY)) (ds := []) #[false, false, false, false, false, false, false, false, false, false, false] (by kernel_rfl) rfl rfl ⟨(aG kL.out 0).trans rfl, (aG kL.out 1).trans rfl, (aG kL.out 2).trans rfl⟩ (fun hHeld => ?_); refine uq dI.aqC dI.ajd (fun t_ Xp => ?_)
 generalize w5.drew = w6 at kL pK HB hHeld ⊢
 refine pl 1 ?_
 refine pl 5 ?_
 refine tk 2 ?_
 refine tk 6 ?_
 refine adU (σ := Value × Value × Value × Value × Nat) 1 #[true, true, true, true, true, true, true, true, true, true, false] (fun s_ => [(5, s_.1), (8, s_.2.1), (9, s_.2.2.1), (12, s_.2.2.2.1), (3, .pointer (some ⟨s_.2.2.2.2, 0, none⟩)), (13, .agg #[s_.2.1, s_.2.2.2.1, .slice none 0 0])]) (fun s_ w' => (w'.cell? ⟨uj, 0, none⟩ = some (.slice jf dh.length jg) ∧ w'.cell? ⟨uj, 1, none⟩ = some (.slice iY bU.length iZ) ∧ w'.cell? ⟨uj, 2, none⟩ = some (.slice gX aC.length eY)) ∧ (Kd.R qJ 69 w' w.heap.size (fun _ => True) s_.2.1 Ic) ∧ (Kd.R Kd.string 9 w' w.heap.size (fun _ => True) s_.2.2.2.1 Ie) ∧ (w'.heap[uj]? = some (.cells #[.slice jf dh.length jg, .slice iY bU.length iZ, .slice gX aC.length eY] 28 (0, 0))) ∧ (w'.heap[BH]? = some (.cells #[.slice none 0 0, .slice none 0 0, .slice none 0 0] 28 (0, 0))) ∧ (w'.heap[s_.2.2.2.2]? = some (.cells #[.slice none 0 0, .slice none 0 0, .slice none 0 0] 28 (0, 0))) ∧ (w.heap.size ≤ s_.2.2.2.2) ∧ (w.heap.size ≤ s_.2.2.2.2) ∧ (uj ≠ s_.2.2.2.2) ∧ (s_.2.2.2.2 ≠ uj) ∧ (BH ≠ s_.2.2.2.2) ∧ (s_.2.2.2.2 ≠ BH) ∧ (Below w.heap.size w w')) ?_ ?_
 rotate_left
 ·
  intro hJ
  repeat' (first
   | (obtain ⟨Gs, Gt, abu⟩ := Kd.aN Eh.out; obtain ⟨Gv, EZ, Vz⟩ := Kd.aN Ei.out; subst abu; subst Vz; refine pl 8 ?_)
   | exact qF (by first | (simp only [yj, Act.put, qW, qX, l_c]; done) | (simp only [yj, Act.put, qW, qX, l_c]; rfl)) (hJ (ana, .slice Gs Ic.length Gt, anb, .slice Gv Ie.length EZ, qG) _ ⟨hHeld, Eh.out, Ei.out, kL.out, pK.out, lX.out, aem.out, aem.out, nM.out, wR.out, yw.out, yx.out, HB.out⟩)
   | ((first | refine th3 0 4 9 ?_ ?_ ?_ | refine th3 3 4 9 ?_ ?_ ?_ | refine tw2 0 4 ?_ ?_ | refine tw2 0 9 ?_ ?_ | refine tw2 3 4 ?_ ?_ | refine tw2 3 9 ?_ ?_ | refine tw2 4 9 ?_ ?_ | refine tw2 7 9 ?_ ?_ | refine o1 0 ?_ | refine o1 3 ?_ | refine o1 4 ?_ | refine o1 7 ?_ | refine o1 9 ?_) <;> (intro K hK; first
    | (refine gn 3 ?_; refine PG ?hg (N := 3) ?hd (cs := #[.slice none 0 0, .slice none 0 0, .slice none 0 0]) (t := 28) ?hr ?_; (case hd => rfl); (case hg => rfl); (case hr => first | (go_simp; done) | (go_simp; rfl)); intro qG hg w_ hbox hb; have aem := ge_ HB hg; have nM := AZ kL hg; have wR := A_ kL hg; have yw := AZ pK hg; have yx := A_ pK hg; (try replace Ah := rb Ah hb); (try replace Eh := rb Eh hb); (try replace Ai := rb Ai hb); (try replace Ei := rb Ei hb); replace kL := kb kL hb; replace pK := kb pK hb; replace HB := bs HB hb; have lX := ak hbox; clear hbox hb hg; refine hK.out _ _ sx (fun hHeld => ?_); clear hK K; refine nrm ?_)
    | (refine gn 5 ?_; refine Kd.qM qJ _ 69 ?hg (N := 5) ?hd (xs := ([] : List gY)) (inner := []) (ok := fun _ => True) (vX := fun _ => True) ?hr ?hp (fun _ hk => hk) trivial (Below.refl _ _) (Nat.le_refl _) (by simp) ?_; (case hd => rfl); (case hg => rfl); (case hr => first | (go_simp; done) | (go_simp; rfl)); (case hp => exact (dD.none _ _)); intro ana w_ ho hb _ _; rw [← as5.out] at ho; replace ho := Kd.aA ho (aj (ul HB.out)); (try replace Ah := rb Ah hb); (try replace Eh := rb Eh hb); (try replace Ai := rb Ai hb); (try replace Ei := rb Ei hb); (try replace lX := kb lX hb); replace kL := kb kL hb; replace pK := kb pK hb; replace HB := bs HB hb; have Ah := ak ho; clear ho hb; refine hK.out _ _ sx (fun hHeld => ?_); clear hK K; refine nrm ?_)
    | (refine gn 9 ?_; refine Kd.qM Kd.string _ 9 ?hg (N := 9) ?hd (xs := ([] : List ByteArray)) (inner := []) (ok := fun _ => True) (vX := fun _ => True) ?hr ?hp (fun _ hk => hk) trivial (Below.refl _ _) (Nat.le_refl _) (by simp) ?_; (case hd => rfl); (case hg => rfl); (case hr => first | (go_simp; done) | (go_simp; rfl)); (case hp => exact (dD.none _ _)); intro anb w_ ho hb _ _; rw [← as6.out] at ho; replace ho := Kd.aA ho (aj (ul HB.out)); (try replace Ah := rb Ah hb); (try replace Eh := rb Eh hb); (try replace Ai := rb Ai hb); (try replace Ei := rb Ei hb); (try replace lX := kb lX hb); replace kL := kb kL hb; replace pK := kb pK hb; replace HB := bs HB hb; have Ai := ak ho; clear ho hb; refine hK.out _ _ sx (fun hHeld => ?_); clear hK K; refine nrm ?_)
    | (refine gn 8 ?_; refine Kd.tN qJ (w0 := w) w.heap.size (by rfl) (.tmp 5) (.tmp 7) 25 69 (.agg #[(.string ⟨#[]⟩), (.string ⟨#[]⟩)]) 32 rfl Tryz.underlying25 Cc rfl (by decide) (by omega) ana aej dh _ _ _ (fun _ => True) (fun _ => False) rfl rfl Ah.out (Kd.aW oO.out HB.out) (fun _ _ h => h) (fun _ h => h.elim) (fun _ _ => trivial) HB.out (aj HB.out) (by have := aln.out; omega) ?_; intro as7 w_ ho hb hg hat; rw [← akm.out] at ho; (try replace Ai := ak (Kd.qo Ai.out (Kd.kU Ah.out) (by decide) hg)); (try replace Ei := ak (Kd.qo Ei.out (Kd.kU Ah.out) (by decide) hg)); (try replace lX := ak (dw lX.out hg (Kd.oQ Ah.out lX.out (by decide)))); replace kL := ak (dw kL.out hg (Kd.oQ Ah.out kL.out (by decide))); replace pK := ak (dw pK.out hg (Kd.oQ Ah.out pK.out (by decide))); replace HB := ak hb; have Eh := ak ho; clear Ah ho hb hg hat; refine hK.out _ _ sx (fun hHeld => ?_); clear hK K; refine nrm ?_)
    | (refine gn 12 ?_; refine Kd.tN Kd.string (w0 := w) w.heap.size (by rfl) (.tmp 9) (.tmp 11) 23 9 (.string ⟨#[]⟩) 16 rfl Tryz.underlying23 info9 rfl (by decide) (by omega) anb aek bU _ _ _ (fun _ => True) (fun _ => False) rfl rfl Ai.out (Kd.aW rE.out HB.out) (fun _ _ h => h) (fun _ h => h.elim) (fun _ _ => trivial) HB.out (aj HB.out) (by have := abq.out; omega) ?_; intro as8 w_ ho hb hg hat; rw [← akn.out] at ho; (try replace Ah := ak (Kd.qo Ah.out (Kd.kU Ai.out) (by decide) hg)); (try replace Eh := ak (Kd.qo Eh.out (Kd.kU Ai.out) (by decide) hg)); (try replace lX := ak (dw lX.out hg (Kd.oQ Ai.out lX.out (by decide)))); replace kL := ak (dw kL.out hg (Kd.oQ Ai.out kL.out (by decide))); replace pK := ak (dw pK.out hg (Kd.oQ Ai.out pK.out (by decide))); replace HB := ak hb; have Ei := ak ho; clear Ai ho hb hg hat; refine hK.out _ _ sx (fun hHeld => ?_); clear hK K; refine nrm ?_))))
 rintro ⟨ana, as7, anb, as8, qG⟩ w16 ⟨hS_, h0_, h1_, h2_, h3_, h4_, h5_, h6_, h7_, h8_, h9_, Uc, abO⟩
 have yP : ah (Kd.R qJ 69 w16 w.heap.size (fun _ => True) as7 Ic) := ⟨h0_⟩
 have yQ : ah (Kd.R Kd.string 9 w16 w.heap.size (fun _ => True) as8 Ie) := ⟨h1_⟩
 have zA : ah (w16.heap[uj]? = some (.cells #[.slice jf dh.length jg, .slice iY bU.length iZ, .slice gX aC.length eY] 28 (0, 0))) := ⟨h2_⟩
 have CS : ah (w16.heap[BH]? = some (.cells #[.slice none 0 0, .slice none 0 0, .slice none 0 0] 28 (0, 0))) := ⟨h3_⟩
 have GY : ah (w16.heap[qG]? = some (.cells #[.slice none 0 0, .slice none 0 0, .slice none 0 0] 28 (0, 0))) := ⟨h4_⟩
 have JE : ah (w.heap.size ≤ qG) := ⟨h5_⟩
 have MX : ah (w.heap.size ≤ qG) := ⟨h6_⟩
 have Ro : ah (uj ≠ qG) := ⟨h7_⟩
 have VU : ah (qG ≠ uj) := ⟨h8_⟩
 have n9_ : ah (BH ≠ qG) := ⟨h9_⟩
 have PI : ah (qG ≠ BH) := ⟨Uc⟩
 have adW : ah (Below w.heap.size w w16) := ⟨abO⟩
 clear kL pK HB h0_ h1_ h2_ h3_ h4_ h5_ h6_ h7_ h8_ h9_ Uc abO
 have Eh := yP
 have Ei := yQ
 have kL := zA
 have pK := CS
 have lX := GY
 have aem := JE
 have aB4 := MX
 have nM := Ro
 have wR := VU
 have yw := n9_
 have yx := PI
 have HB := adW
 clear yP yQ zA CS GY JE MX Ro VU n9_ PI adW
 have hHeld : w16.cell? ⟨uj, 0, none⟩ = some (.slice jf dh.length jg) ∧ w16.cell? ⟨uj, 1, none⟩ = some (.slice iY bU.length iZ) ∧ w16.cell? ⟨uj, 2, none⟩ = some (.slice gX aC.length eY) := hS_
 obtain ⟨Gv, EZ, Vz⟩ := Kd.aN Ei.out
 (first | subst Vz | (injection Vz with qR wZ qU; have xg := qR.symm; have xk := qU.symm; clear qR wZ qU; subst xg; subst xk))
 obtain ⟨Gs, Gt, abu⟩ := Kd.aN Eh.out
 (first | subst abu | (injection abu with qR wZ qU; have xg := qR.symm; have xk := qU.symm; clear qR wZ qU; subst xg; subst xk))
 refine qF (a' := ?_) ?_ ?_
 rotate_left
 ·
  simp only [yj, Act.put, qW, qX, l_c]
  rfl
 refine o1 10 (fun K hK => ?_)
 have aGT : w16.cell? ⟨qG, 0, none⟩ = some (.slice none 0 0) := (aG lX.out 0).trans rfl
 have aB5 := iq lX.out 0
 have awc := nM.out
 have awd := yw.out
 have awe := wR.out
 have awf := yx.out
 have aGU : w16.cell? ⟨qG, 1, none⟩ = some (.slice none 0 0) := (aG lX.out 1).trans rfl
 have aB6 := iq lX.out 1
 have awg := nM.out
 have awh := yw.out
 have awi := wR.out
 have awj := yx.out
 have aGV : w16.cell? ⟨qG, 2, none⟩ = some (.slice none 0 0) := (aG lX.out 2).trans rfl
 have aB7 := iq lX.out 2
 have awk := nM.out
 have awl := yw.out
 have awm := wR.out
 have awn := yx.out
 refine GZ (w1 := ?_) (by rfl) rfl ?_ ?_
 rotate_left
 ·
  go_simp
  rfl
 refine hK.out _ _ ⟨((cell_far (p := ⟨qG, _, none⟩) nM.out _).trans (((cell_far (p := ⟨qG, _, none⟩) nM.out _).trans (((cell_far (p := ⟨qG, _, none⟩) nM.out _).trans (hHeld.1)))))), ((cell_far (p := ⟨qG, _, none⟩) nM.out _).trans (((cell_far (p := ⟨qG, _, none⟩) nM.out _).trans (((cell_far (p := ⟨qG, _, none⟩) nM.out _).trans (hHeld.2.1)))))), ((cell_far (p := ⟨qG, _, none⟩) nM.out _).trans (((cell_far (p := ⟨qG, _, none⟩) nM.out _).trans (((cell_far (p := ⟨qG, _, none⟩) nM.out _).trans (hHeld.2.2))))))⟩ (fun hHeld => ?_)
 clear hK K
 refine G5 (yH t_.out (by kernel_rfl)) ?_
 try go_wp2
 go_loopg [4] k (fun kq v4 w' => ∃ (dW : Int) (zW : List (nG)) (yK : Value), v4 = .int .i64 dW ∧ ah (dI.l0 kq dW dh bU aC Ic Ie zW = some (r1, r2, r3)) ∧ ah (kq ≤ k) ∧ ah (Kd.R qJ 69 w' w.heap.size (fun _ => True) (.slice Gs Ic.length Gt) Ic) ∧ ah (Kd.R Kd.string 9 w' w.heap.size (fun _ => True) (.slice Gv Ie.length EZ) Ie) ∧ ah (Kd.R k28 28 w' w.heap.size (fun k_ => some k_ ≠ ((.slice Gs Ic.length Gt) : Value).ownBlock ∧ some k_ ≠ ((.slice Gv Ie.length EZ) : Value).ownBlock ∧ k_ ≠ uj ∧ k_ ≠ BH ∧ k_ ≠ qG) yK zW) ∧ ah (w'.heap[uj]? = some (.cells #[(.slice jf dh.length jg), (.slice iY bU.length iZ), (.slice gX aC.length eY)] 28 (0, 0))) ∧ ah (w'.heap[BH]? = some (.cells #[(.slice none 0 0), (.slice none 0 0), (.slice none 0 0)] 28 (0, 0))) ∧ ah (w'.heap[qG]? = some (.cells #[(.slice Gs Ic.length Gt), (.slice Gv Ie.length EZ), yK] 28 (0, 0))) ∧ ah (Below w.heap.size w w'))
 case atStart => exact ⟨_, _, _, rs, H', ⟨Nat.le_refl _⟩, ⟨rr⟩, ⟨rr⟩, ⟨nx⟩, ⟨bq⟩, ⟨bq⟩, ⟨bq⟩, ⟨bb⟩⟩
 case round =>
  clear H'
  obtain ⟨dW, zW, yK, rfl, HA, xu, ru, rC, oz, kL, pK, lX, HB⟩ := hrel
  cases gk with
  | zero => exact zz HA.out
  | succ k1 =>
   obtain ⟨H⟩ := HA
   simp only [dI.l0] at H
   replace H := sd H
   rcases H with ⟨EW, H⟩ | ⟨EW, H⟩
   ·
    replace H := oM H; obtain ⟨Ae, H⟩ := H; replace H := bd H
    obtain ⟨⟨aen, aeo, aep⟩, XM, H⟩ := H
    (try dsimp only at H)
    replace H := nl H; obtain ⟨Vp, H⟩ := H
    obtain ⟨aGW, ako⟩ := nm (zW ++ [(⟨aen, aeo, aep⟩ : nG)])
    rw [← ako.out] at H
    have H' := ak H; clear H
    have asW := RD.out
    have asX := RF.out
    have aiU := nM.out
    have aiV := wR.out
    have z28 := jW kL.out
    try go_wp2
    replace ru := ak (Kd.mD ru.out)
    replace rC := ak (Kd.mD rC.out)
    replace oz := ak (Kd.mD oz.out)
    replace kL := ak (bn kL.out)
    replace pK := ak (bn pK.out)
    replace lX := ak (bn lX.out)
    replace HB := ak (iH HB.out)
    have anc := zi dW
    have ane := zj dW aC.length
    obtain ⟨JK, aer, aes, aeu, aev, aew, aex, ayU, Ou, Ov, Ox, aau, aav, aaw, aax, aay, aaz⟩ := Ce jm.out dW anc ane
    have yL := Ox
    have yM := Ov
    have yN := Ou
    cases ayU
    replace Ou := cl HB.out Ou
    replace Ov := cl HB.out Ov
    replace Ox := cl HB.out Ox
    have aaA := ak aav
    have ahs := ak aau
    clear aav aau
    have aaB := ak aax
    have aht := ak aaw
    clear aax aaw
    have aaC := ak aaz
    have ahu := ak aay
    clear aaz aay
    replace anc := eq_true anc
    replace ane := eq_true ane
    refine Ci (n := 12) (S := fun w' => w'.cell? ⟨qG, 0, none⟩ = some (.slice Gs Ic.length Gt) ∧ w'.cell? ⟨qG, 1, none⟩ = some (.slice Gv Ie.length EZ) ∧ w'.cell? ⟨qG, 2, none⟩ = some (yK) ∧ w'.cell? ⟨uj, 0, none⟩ = some (.slice jf dh.length jg) ∧ w'.cell? ⟨uj, 1, none⟩ = some (.slice iY bU.length iZ) ∧ w'.cell? ⟨uj, 2, none⟩ = some (.slice (some JK) aC.length eY) ∧ w'.cell? (JK.add ((dW).toNat * 3)) = some (.slice aer ((bK aC dW).f0).length aes) ∧ w'.cell? ⟨(JK.add ((dW).toNat * 3)).block, (JK.add ((dW).toNat * 3)).off + 1, none⟩ = some (.slice aeu ((bK aC dW).f1).length aev) ∧ w'.cell? ⟨(JK.add ((dW).toNat * 3)).block, (JK.add ((dW).toNat * 3)).off + 2, none⟩ = some (.slice aew ((bK aC dW).f2).length aex)) (ds := [11]) #[false, false, false, false, false, false, false, false, false, false, false, false] (by kernel_rfl) rfl rfl ⟨(aG lX.out 0).trans rfl, (aG lX.out 1).trans rfl, (aG lX.out 2).trans rfl, (aG kL.out 0).trans rfl, (aG kL.out 1).trans rfl, (aG kL.out 2).trans rfl, ((HB.out.cell (World.block_lt_of_cell? w _ yN)).trans yN), ((HB.out.cell (World.block_lt_of_cell? w _ yM)).trans yM), ((HB.out.cell (World.block_lt_of_cell? w _ yL)).trans yL)⟩ (fun hHeld => ?_); refine uq dI.am_ dI.ael (fun t_ Xp => ?_)
    generalize wr.drew = w29 at ru rC oz kL pK lX HB aaA aaB aaC Ou Ov Ox hHeld ⊢
    refine pl 0 ?_
    refine pl 2 ?_
    refine pl 4 ?_
    refine tk 1 ?_
    refine tk 3 ?_
    refine pl 5 ?_
    refine tk 6 ?_
    refine o1 7 (fun K hK => ?_)
    refine yR Tryz.func110 (by kernel_rfl) rfl #[.agg #[.slice aer ((bK aC dW).f0).length aes, .slice aeu ((bK aC dW).f1).length aev, .slice aew ((bK aC dW).f2).length aex]] (by rfl) rfl rfl ma ?_
    with_reducible refine (ih k1 (by have := xu.out; omega) _ _ ((bK aC dW).f0) _ _ ((bK aC dW).f1) _ _ ((bK aC dW).f2) aen aeo aep _ ?fG ?jc ?ug ?CZ ?uh ?as9 XM.out).mono ?_
    (case fG => repeat (first | exact (Kd.aW aaA.out HB.out) | (with_reducible refine Kd.ql ?_ _) | (with_reducible refine Kd.qm ?_ _) | (with_reducible refine Kd.tJ ?_)))
    (case jc => exact ahs.out)
    (case ug => repeat (first | exact (Kd.aW aaB.out HB.out) | (with_reducible refine Kd.ql ?_ _) | (with_reducible refine Kd.qm ?_ _) | (with_reducible refine Kd.tJ ?_)))
    (case CZ => exact aht.out)
    (case uh => repeat (first | exact (Kd.aW aaC.out HB.out) | (with_reducible refine Kd.ql ?_ _) | (with_reducible refine Kd.qm ?_ _) | (with_reducible refine Kd.tJ ?_)))
    (case as9 => exact ahu.out)
    rintro e w30 ⟨aGX, aGY, aGZ, rfl, ho0, ho1, ho2, hb⟩
    refine ⟨_, rfl, ?_⟩
    have aey := ak (Kd.aA (Kd.gU ho0 (Kd.kX (ur ru.out))) (aj bb))
    have aez := ak (Kd.aA (Kd.gU ho1 (Kd.kX (ur rC.out))) (aj bb))
    have aeA := ak (Kd.aA (Kd.nP (Kd.nP (Kd.nP (Kd.gU (Kd.gU (Kd.gU ho2 (Kd.kX (ur ru.out))) (Kd.kX (ur rC.out))) (Kd.kX (ur oz.out))) (g := uj) (o := .cells #[.slice jf dh.length jg, .slice iY bU.length iZ, .slice (some JK) aC.length eY] 28 (0, 0)) (ub kL.out)) (g := BH) (o := .cells #[.slice none 0 0, .slice none 0 0, .slice none 0 0] 28 (0, 0)) (ub pK.out)) (g := qG) (o := .cells #[.slice Gs Ic.length Gt, .slice Gv Ie.length EZ, yK] 28 (0, 0)) (ub lX.out)) (aj bb))
    replace ru := ak (Kd.fV (ur ru.out) (Kd.fQ ho0) hb)
    replace rC := ak (Kd.fV (ur rC.out) (Kd.fQ ho1) hb)
    replace oz := ak (Kd.aZ (Kd.tK (Kd.tK (Kd.tK (Kd.acN (ur oz.out) hb) (Kd.fQ ho0)) (Kd.fQ ho1)) (Kd.fQ ho2)) (fun _ h_ => h_.1))
    replace kL := kb kL hb
    replace pK := kb pK hb
    replace lX := kb lX hb
    replace HB := bz HB hb
    try clear hb
    try clear ho0
    try clear ho1
    try clear ho2
    obtain ⟨ayV, ayW, ata⟩ := Kd.aN aey.out
    (first | subst ata | (injection ata with qR wZ qU; have xg := qR.symm; have xk := qU.symm; clear qR wZ qU; subst xg; subst xk))
    obtain ⟨QN, QO, adX⟩ := Kd.aN aez.out
    (first | subst adX | (injection adX with qR wZ qU; have xg := qR.symm; have xk := qU.symm; clear qR wZ qU; subst xg; subst xk))
    obtain ⟨apS, apT, adk⟩ := Kd.aN aeA.out
    (first | subst adk | (injection adk with qR wZ qU; have xg := qR.symm; have xk := qU.symm; clear qR wZ qU; subst xg; subst xk))
    refine hK.out _ _ ⟨(aG lX.out 0).trans rfl, (aG lX.out 1).trans rfl, (aG lX.out 2).trans rfl, (aG kL.out 0).trans rfl, (aG kL.out 1).trans rfl, (aG kL.out 2).trans rfl, ((HB.out.cell (World.block_lt_of_cell? w _ yN)).trans yN), ((HB.out.cell (World.block_lt_of_cell? w _ yM)).trans yM), ((HB.out.cell (World.block_lt_of_cell? w _ yL)).trans yL)⟩ (fun hHeld => ?_)
    clear hK K
    refine nrm ?_
    refine o1 8 (fun K hK => ?_)
    refine Cj (w1 := ?_) (v := ?_) (by rfl) rfl ?_ ?_
    rotate_left 2
    ·
     go_simp
     constructor
     ·
      rfl
     ·
      rfl
    refine hK.out _ _ ⟨(aG (aX lX.out _) 0).trans rfl, (aG (aX lX.out _) 1).trans rfl, (aG (aX lX.out _) 2).trans rfl, (aG (aX kL.out _) 0).trans rfl, (aG (aX kL.out _) 1).trans rfl, (aG (aX kL.out _) 2).trans rfl, (World.cell?_alloc_lt _ _ _ (World.block_lt_of_cell? _ _ (((HB.out.cell (World.block_lt_of_cell? w _ yN)).trans yN)))).trans (((HB.out.cell (World.block_lt_of_cell? w _ yN)).trans yN)), (World.cell?_alloc_lt _ _ _ (World.block_lt_of_cell? _ _ (((HB.out.cell (World.block_lt_of_cell? w _ yM)).trans yM)))).trans (((HB.out.cell (World.block_lt_of_cell? w _ yM)).trans yM)), (World.cell?_alloc_lt _ _ _ (World.block_lt_of_cell? _ _ (((HB.out.cell (World.block_lt_of_cell? w _ yL)).trans yL)))).trans (((HB.out.cell (World.block_lt_of_cell? w _ yL)).trans yL))⟩ (fun hHeld => ?_)
    clear hK K
    refine nrm ?_
    refine o1 9 (fun K hK => ?_)
    refine Kd.nU k28 (w0 := w) w.heap.size (by rfl) (.tmp 22) (.tmp 29) 26 28 (.agg #[(.slice none 0 0), (.slice none 0 0), (.slice none 0 0)]) 72 rfl Tryz.underlying26 SK rfl (by decide) (by omega) yK zW (⟨aen, aeo, aep⟩ : nG) [.slice ayV aen.length ayW, .slice QN aeo.length QO, .slice apS aep.length apT] (fun k_ => some k_ ≠ (.slice Gs Ic.length Gt : Value).ownBlock ∧ some k_ ≠ (.slice Gv Ie.length EZ : Value).ownBlock ∧ k_ ≠ uj ∧ k_ ≠ BH ∧ k_ ≠ qG) (fun k_ => ((fun k_ => some k_ ≠ (.slice Gs Ic.length Gt : Value).ownBlock ∧ some k_ ≠ (.slice Gv Ie.length EZ : Value).ownBlock ∧ k_ ≠ uj ∧ k_ ≠ BH ∧ k_ ≠ qG)) k_ ∧ some k_ ≠ (yK : Value).ownBlock) rfl rfl ?aP (fun _ hk => hk) ?aF ?aO ?aB ?aS ?aL ?_
    (case aP => exact Oe _ _ _ (⟨aen, aeo, aep⟩ : nG) (Kd.aZ (Kd.mJ (Kd.mJ (Kd.mJ (Kd.o7 (Kd.o7 (aey.out) (Kd.kU rC.out) (by decide)) (Kd.kU oz.out) (by decide)) kL.out (by decide)) pK.out (by decide)) lX.out (by decide)) (fun k_ hk => ⟨⟨hk.1.1.1.1.1.2, ⟨hk.1.1.1.1.2, ⟨hk.1.1.2, ⟨hk.1.2, hk.2⟩⟩⟩⟩, hk.1.1.1.2⟩)) (Kd.aZ (Kd.mJ (Kd.mJ (Kd.mJ (Kd.o7 (Kd.o7 (aez.out) (Kd.kU ru.out) (by decide)) (Kd.kU oz.out) (by decide)) kL.out (by decide)) pK.out (by decide)) lX.out (by decide)) (fun k_ hk => ⟨⟨hk.1.1.1.1.2, ⟨hk.1.1.1.1.1.2, ⟨hk.1.1.2, ⟨hk.1.2, hk.2⟩⟩⟩⟩, hk.1.1.1.2⟩)) (Kd.aZ (aeA.out) (fun k_ hk => ⟨⟨hk.1.1.1.1.1.2, ⟨hk.1.1.1.1.2, ⟨hk.1.1.2, ⟨hk.1.2, hk.2⟩⟩⟩⟩, hk.1.1.1.2⟩)))
    (case aB => exact bb)
    (case aF => exact (fun k_ hk => ⟨Kd.fresh' (Kd.kX (ur ru.out)) k_ hk, Kd.fresh' (Kd.kX (ur rC.out)) k_ hk, Kd.yg (g := uj) (o := .cells #[.slice jf dh.length jg, .slice iY bU.length iZ, .slice (some JK) aC.length eY] 28 (0, 0)) (ub kL.out) k_ hk, Kd.yg (g := BH) (o := .cells #[.slice none 0 0, .slice none 0 0, .slice none 0 0] 28 (0, 0)) (ub pK.out) k_ hk, Kd.yg (g := qG) (o := .cells #[.slice Gs Ic.length Gt, .slice Gv Ie.length EZ, yK] 28 (0, 0)) (ub lX.out) k_ hk⟩))
    (case aO => exact (ur (Kd.aZ oz.out (fun _ hk => ⟨hk.1.1.1.1, ⟨hk.1.1.1.2.1, ⟨hk.1.1.1.2.2.1, ⟨hk.1.1.1.2.2.2.1, hk.1.1.1.2.2.2.2⟩⟩⟩⟩))))
    (case aS => exact (aj bb))
    (case aL => have := Vp.out; omega)
    intro aG0 w31 ho hb hg hat
    rw [← ako.out] at ho
    have yP := ak (Kd.qo (ur ru.out) (Kd.kU (ur oz.out)) (by decide) hg)
    have yQ := ak (Kd.qo (ur rC.out) (Kd.kU (ur oz.out)) (by decide) hg)
    have zA := ak (dw (g := uj) (o := .cells #[.slice jf dh.length jg, .slice iY bU.length iZ, .slice (some JK) aC.length eY] 28 (0, 0)) (ub kL.out) hg (Kd.y7 oz.out (fun _ hk => hk.1.1.1.2.2.1)))
    have CS := ak (dw (g := BH) (o := .cells #[.slice none 0 0, .slice none 0 0, .slice none 0 0] 28 (0, 0)) (ub pK.out) hg (Kd.y7 oz.out (fun _ hk => hk.1.1.1.2.2.2.1)))
    have GY := ak (dw (g := qG) (o := .cells #[.slice Gs Ic.length Gt, .slice Gv Ie.length EZ, yK] 28 (0, 0)) (ub lX.out) hg (Kd.y7 oz.out (fun _ hk => hk.1.1.1.2.2.2.2)))
    have JE := ak (hb)
    have MX := ak (ho)
    clear ru rC kL pK lX HB oz aey aez aeA
    have ru := yP
    have rC := yQ
    have kL := zA
    have pK := CS
    have lX := GY
    have HB := JE
    have atb := MX
    clear yP yQ zA CS GY JE MX ho hb hg hat
    obtain ⟨aG1, aG2, atc⟩ := Kd.aN atb.out
    (first | subst atc | (injection atc with qR wZ qU; have xg := qR.symm; have xk := qU.symm; clear qR wZ qU; subst xg; subst xk))
    refine hK.out _ _ ⟨(aG lX.out 0).trans rfl, (aG lX.out 1).trans rfl, (aG lX.out 2).trans rfl, (aG kL.out 0).trans rfl, (aG kL.out 1).trans rfl, (aG kL.out 2).trans rfl, ((HB.out.cell (World.block_lt_of_cell? w _ yN)).trans yN), ((HB.out.cell (World.block_lt_of_cell? w _ yM)).trans yM), ((HB.out.cell (World.block_lt_of_cell? w _ yL)).trans yL)⟩ (fun hHeld => ?_)
    clear hK K
    refine nrm ?_
    refine pl 10 ?_
    refine GX (i := 11) (N := none) #[true, true, true, true, true, true, true, true, true, true, true, true] rfl rfl (oL t_.out (by kernel_rfl)) (by decide) (fun K hK => ?_)
    have ayl : w31.cell? ⟨qG, 2, none⟩ = some (yK) := (aG lX.out 2).trans rfl
    have asl := iq lX.out 2
    have ahe := nM.out
    have ahf := yw.out
    have ahg := wR.out
    have ahh := yx.out
    refine GZ (w1 := ?_) (by rfl) rfl ?_ ?_
    rotate_left
    ·
     go_simp
     rfl
    refine hK.out _ _ ?_
    clear hK K
    refine G5 (yH t_.out (by kernel_rfl)) ?_
    try go_wp2
    go_roundg k1
    case measure => exact kl
    case rel => exact ⟨_, _, _, rs, H', ⟨kl⟩, ⟨rr⟩, ⟨rr⟩, ⟨rr⟩, ⟨bq⟩, ⟨bq⟩, ⟨bq⟩, ⟨bb⟩⟩
   ·
    obtain ⟨rfl, rfl, rfl⟩ := s3 H
    have asn := RD.out
    have aso := RF.out
    have asq := nM.out
    have asr := wR.out
    have z39 := jW kL.out
    have akp := yx.out
    have akq := yw.out
    have z41 := jW lX.out
    have z42 := jW pK.out
    obtain ⟨ayX, ayY, ayZ⟩ := Kd.aN oz.out
    subst ayZ
    go_wp2
    refine bodyPost_ret (results_cell_row rfl _ _ BH 28 #[.slice Gs Ic.length Gt, .slice Gv Ie.length EZ, .slice ayX zW.length ayY] (0, 0) _ rfl bq Tryz.underlying28 rfl (by kernel_rfl)) rfl ?_
    exact ⟨_, _, _, er, rr, rr, rr, bb⟩
end Go.Proofs.YtncdadcmghglkaaGreatDoor.PFnCountParts
