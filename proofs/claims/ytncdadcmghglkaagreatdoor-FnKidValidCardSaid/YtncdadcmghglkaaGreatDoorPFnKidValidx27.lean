/- Printed walks; conditions: those in each statement. -/
import Derived.Test.YtncdadcmghglkaaGreatDoorVFnKidValidQt
import Derived.Test.YtncdadcmghglkaaGreatDoorVFnKidValidYt
import Derived.Test.YtncdadcmghglkaaGreatDoorPFnKidValidx0
-- short
-- dense
-- sq
-- sq2
namespace Go.Proofs.YtncdadcmghglkaaGreatDoor.PFnKidValid
open Go.RowKit Go.Proofs.YtncdadcmghglkaaGreatDoor.X Go.Proofs.YtncdadcmghglkaaGreatDoorW.bI Go.Proofs.YtncdadcmghglkaaGreatDoorW.gq Go.Proofs.YtncdadcmghglkaaGreatDoorW.iJ
attribute [local go_sem] kJ kK mD mF jv jw kL kM   -- for this text's walks alone
set_option linter.unusedVariables false
set_option maxHeartbeats 8000000
set_option maxRecDepth 100000
set_option linter.unusedSimpArgs false
mutual
def dK.l0 : Nat → Int → List (gU) → List ByteArray → List (mY) → List (gU) → List ByteArray → List (mY) → Option ((List (gU)) × List ByteArray × (List (mY)))
 | 0, _, _, _, _, _, _, _ => none
 | k + 1, x4, aii, aij, Ky, aa7, aa8, U7 => if x4 < (Ky.length : Int) then (if 0 ≤ x4 then ((dK.f k ((bg Ky x4).f0) ((bg Ky x4).f1) ((bg Ky x4).f2)).bind fun aeV => (if U7.length < 1954687338268 then (dK.l0 k (wrap64 (x4 + 1)) aii aij Ky aa7 aa8 (U7 ++ [(⟨aeV.1, aeV.2.1, aeV.2.2⟩ : mY)])) else (none))) else (none)) else (some (aa7, aa8, U7))
def dK.f : Nat → List (gU) → List ByteArray → List (mY) → Option ((List (gU)) × List ByteArray × (List (mY)))
 | 0, _, _, _ => none
 | k + 1, dh, bU, ay => (some (([] : List (gU)) : List (gU))).bind fun aeW => (if aeW.length + dh.length < 4398046511104 then ((some (([] : List ByteArray) : List ByteArray)).bind fun aeX => (if aeX.length + bU.length < 8796093022208 then (dK.l0 k 0 dh bU ay (aeW ++ dh) (aeX ++ bU) ([] : List (mY))) else (none))) else (none))
end
def dK.T1 : Bool × List (List Nat × List Nat) := (true, [([], []), ([], []), ([1], [1]), ([0, 2], [0, 2]), ([], []), ([], []), ([5], [5]), ([4, 6, 3], [4, 6]), ([3, 7], [3, 7]), ([], []), ([9, 8, 7, 0, 1, 2, 3, 4, 5, 6, 7, 8, 9], [8, 9])])
def dK.B1 : List Nat := [0, 0, 2, 7, 0, 0, 32, 127, 255, 0, 1023]
theorem dK.arT : sQ .any (opsOf Tryz.f110 1) = dK.T1 := by kernel_rfl
theorem dK.aj_ : nU dK.T1.2 dK.B1 = true := by kernel_rfl
def dK.T5 : Bool × List (List Nat × List Nat) := (true, [([], []), ([0], [0]), ([], []), ([2], [2]), ([], []), ([3, 4], [3, 4]), ([5], [5]), ([6], [6]), ([7], [7]), ([1, 8, 7], [1, 8]), ([0, 1, 2, 3, 4, 5, 6, 7, 8, 9], []), ([10, 9, 9, 0, 1, 2, 3, 4, 5, 6, 7, 8, 9], [9, 10])])
def dK.B5 : List Nat := [0, 1, 0, 4, 0, 28, 60, 124, 252, 511, 1023, 2047]
theorem dK.aod : sQ .any (opsOf Tryz.f110 5) = dK.T5 := by kernel_rfl
theorem dK.aeY : nU dK.T5.2 dK.B5 = true := by kernel_rfl
theorem dK.calls (k : Nat) : ∀ (iY : Option Addr) (iZ : Nat) (dh : List (gU)) (iU : Option Addr) (iV : Nat) (bU : List ByteArray) (gW : Option Addr) (fA : Nat) (ay : List (mY)) (r1 : List (gU)) (r2 : List ByteArray) (r3 : List (mY)) (w : World) (lW : Kd.C qj w iY dh.length dh) (lX : dh.length ≤ iZ) (lY : Kd.C Kd.string w iU bU.length bU) (lZ : bU.length ≤ iV) (jG : Kd.C k28 w gW ay.length ay) (jH : ay.length ≤ fA) (h : dK.f k dh bU ay = some (r1, r2, r3)),
  Calls Tryz.prog 110 #[.agg #[.slice iY dh.length iZ, .slice iU bU.length iV, .slice gW ay.length fA]] w fun e w' => ∃ ql DT E8 : Value, e = .returned (.agg #[ql, DT, E8]) ∧ Kd.R qj 69 w' w.heap.size (fun _ => True) ql r1 ∧ Kd.R Kd.string 9 w' w.heap.size (fun _ => True) DT r2 ∧ Kd.R k28 28 w' w.heap.size (fun k_ => some k_ ≠ (ql : Value).ownBlock ∧ some k_ ≠ (DT : Value).ownBlock) E8 r3 ∧ Below w.heap.size w w' := by
 induction k using Nat.strongRecOn with
 | _ k ih =>
 intro iY iZ dh iU iV bU gW fA ay r1 r2 r3 w lW lX lY lZ jG jH h
 cases k with
 | zero => exact absurd h (by simp [dK.f])
 | succ k =>
 simp only [dK.f] at h
 have Dj := Tryz.underlying28
 have oP := ak lW
 have pI := ak lX
 clear lW lX
 have rE := ak lY
 have uG := ak lZ
 clear lY lZ
 have jh := ak jG
 have lC := ak jH
 clear jG jH
 have HB := ak (Below.refl w.heap.size w)
 have H := h
 clear h
 replace H := ny H
 obtain ⟨aeW, aut, H⟩ := H
 replace H := nl H; obtain ⟨aml, H⟩ := H
 obtain ⟨IW, alg⟩ := nm (aeW ++ dh)
 rw [← alg.out] at H
 replace H := ny H
 obtain ⟨aeX, auu, H⟩ := H
 replace H := nl H; obtain ⟨ab8, H⟩ := H
 obtain ⟨IX, alh⟩ := nm (aeX ++ bU)
 rw [← alh.out] at H
 have H' := ak H; clear H
 go_enter Tryz.func110, Tryz.ntmps110
 try go_wp2_with (first | (refine bX HB 1 #[.slice iY dh.length iZ, .slice iU bU.length iV, .slice gW ay.length fA] 28 ?_; intro uh w4 kF aDr hb; replace HB := bs HB hb; clear hb) | (refine bY HB 2 #[.slice none 0 0, .slice none 0 0, .slice none 0 0] 28 ?_; intro Cm w5 pO aDs hg hb; have Tf := BL kF hg; have Ti := BM kF hg; replace kF := kb kF hb; replace HB := bz HB hb; clear hb hg))
 replace kF := ak (bC kF.out)
 replace pO := ak (bC pO.out)
 replace HB := ak (iF HB.out)
 refine Df (n := 11) (S := fun w' => w'.cell? ⟨uh, 0, none⟩ = some (.slice iY dh.length iZ) ∧ w'.cell? ⟨uh, 1, none⟩ = some (.slice iU bU.length iV) ∧ w'.cell? ⟨uh, 2, none⟩ = some (.slice gW ay.length fA)) (ds := []) #[false, false, false, false, false, false, false, false, false, false, false] (by kernel_rfl) rfl rfl ⟨(aA kF.out 0).trans rfl, (aA kF.out 1).trans rfl, (aA kF.out 2).trans rfl⟩ (fun hHeld => ?_); refine uo dK.arT dK.aj_ (fun ug Yd => ?_)
 generalize w5.drew = w6 at kF pO HB hHeld ⊢
 refine pl 1 ?_
 refine pl 5 ?_
 refine tk 2 ?_
 refine tk 6 ?_
 refine aev (σ := Value × Value × Value × Value × Nat) 1 #[true, true, true, true, true, true, true, true, true, true, false] (fun s_ => [(5, s_.1), (8, s_.2.1), (9, s_.2.2.1), (12, s_.2.2.2.1), (3, .pointer (some ⟨s_.2.2.2.2, 0, none⟩)), (13, .agg #[s_.2.1, s_.2.2.2.1, .slice none 0 0])]) (fun s_ w' => (w'.cell? ⟨uh, 0, none⟩ = some (.slice iY dh.length iZ) ∧ w'.cell? ⟨uh, 1, none⟩ = some (.slice iU bU.length iV) ∧ w'.cell? ⟨uh, 2, none⟩ = some (.slice gW ay.length fA)) ∧ (Kd.R qj 69 w' w.heap.size (fun _ => True) s_.2.1 IW) ∧ (Kd.R Kd.string 9 w' w.heap.size (fun _ => True) s_.2.2.2.1 IX) ∧ (w'.heap[uh]? = some (.cells #[.slice iY dh.length iZ, .slice iU bU.length iV, .slice gW ay.length fA] 28 (0, 0))) ∧ (w'.heap[Cm]? = some (.cells #[.slice none 0 0, .slice none 0 0, .slice none 0 0] 28 (0, 0))) ∧ (w'.heap[s_.2.2.2.2]? = some (.cells #[.slice none 0 0, .slice none 0 0, .slice none 0 0] 28 (0, 0))) ∧ (w.heap.size ≤ s_.2.2.2.2) ∧ (w.heap.size ≤ s_.2.2.2.2) ∧ (uh ≠ s_.2.2.2.2) ∧ (s_.2.2.2.2 ≠ uh) ∧ (Cm ≠ s_.2.2.2.2) ∧ (s_.2.2.2.2 ≠ Cm) ∧ (Below w.heap.size w w')) ?_ ?_
 rotate_left
 ·
  intro hJ
  repeat' (first
   | (obtain ⟨Hg, Hl, acd⟩ := Kd.aV EH.out; obtain ⟨Hq, FC, Ws⟩ := Kd.aV EI.out; subst acd; subst Ws; refine pl 8 ?_)
   | exact qF (by first | (simp only [yE, Act.put, qQ, qR, l_c]; done) | (simp only [yE, Act.put, qQ, qR, l_c]; rfl)) (hJ (aoe, .slice Hg IW.length Hl, aof, .slice Hq IX.length FC, qG) _ ⟨hHeld, EH.out, EI.out, kF.out, pO.out, lU.out, aeZ.out, aeZ.out, nK.out, wZ.out, yH.out, yI.out, HB.out⟩)
   | ((first | refine th3 0 4 9 ?_ ?_ ?_ | refine th3 3 4 9 ?_ ?_ ?_ | refine tw2 0 4 ?_ ?_ | refine tw2 0 9 ?_ ?_ | refine tw2 3 4 ?_ ?_ | refine tw2 3 9 ?_ ?_ | refine tw2 4 9 ?_ ?_ | refine tw2 7 9 ?_ ?_ | refine o1 0 ?_ | refine o1 3 ?_ | refine o1 4 ?_ | refine o1 7 ?_ | refine o1 9 ?_) <;> (intro K hK; first
    | (refine gn 3 ?_; refine Qq ?hg (N := 3) ?hd (cs := #[.slice none 0 0, .slice none 0 0, .slice none 0 0]) (t := 28) ?hr ?_; (case hd => rfl); (case hg => rfl); (case hr => first | (go_simp; done) | (go_simp; rfl)); intro qG hg w_ hbox hb; have aeZ := ge_ HB hg; have nK := BL kF hg; have wZ := BM kF hg; have yH := BL pO hg; have yI := BM pO hg; (try replace AO := rb AO hb); (try replace EH := rb EH hb); (try replace AP := rb AP hb); (try replace EI := rb EI hb); replace kF := kb kF hb; replace pO := kb pO hb; replace HB := bs HB hb; have lU := ak hbox; clear hbox hb hg; refine hK.out _ _ sx (fun hHeld => ?_); clear hK K; refine nrm ?_)
    | (refine gn 5 ?_; refine Kd.qM qj _ 69 ?hg (N := 5) ?hd (xs := ([] : List gU)) (inner := []) (ok := fun _ => True) (wE := fun _ => True) ?hr ?hp (fun _ hk => hk) trivial (Below.refl _ _) (Nat.le_refl _) (by simp) ?_; (case hd => rfl); (case hg => rfl); (case hr => first | (go_simp; done) | (go_simp; rfl)); (case hp => exact (dD.none _ _)); intro aoe w_ ho hb _ _; rw [← aut.out] at ho; replace ho := Kd.aC ho (aj (ul HB.out)); (try replace AO := rb AO hb); (try replace EH := rb EH hb); (try replace AP := rb AP hb); (try replace EI := rb EI hb); (try replace lU := kb lU hb); replace kF := kb kF hb; replace pO := kb pO hb; replace HB := bs HB hb; have AO := ak ho; clear ho hb; refine hK.out _ _ sx (fun hHeld => ?_); clear hK K; refine nrm ?_)
    | (refine gn 9 ?_; refine Kd.qM Kd.string _ 9 ?hg (N := 9) ?hd (xs := ([] : List ByteArray)) (inner := []) (ok := fun _ => True) (wE := fun _ => True) ?hr ?hp (fun _ hk => hk) trivial (Below.refl _ _) (Nat.le_refl _) (by simp) ?_; (case hd => rfl); (case hg => rfl); (case hr => first | (go_simp; done) | (go_simp; rfl)); (case hp => exact (dD.none _ _)); intro aof w_ ho hb _ _; rw [← auu.out] at ho; replace ho := Kd.aC ho (aj (ul HB.out)); (try replace AO := rb AO hb); (try replace EH := rb EH hb); (try replace AP := rb AP hb); (try replace EI := rb EI hb); (try replace lU := kb lU hb); replace kF := kb kF hb; replace pO := kb pO hb; replace HB := bs HB hb; have AP := ak ho; clear ho hb; refine hK.out _ _ sx (fun hHeld => ?_); clear hK K; refine nrm ?_)
    | (refine gn 8 ?_; refine Kd.tX qj (w0 := w) w.heap.size (by rfl) (.tmp 5) (.tmp 7) 25 69 (.agg #[(.string ⟨#[]⟩), (.string ⟨#[]⟩)]) 32 rfl Tryz.underlying25 Dc rfl (by decide) (by omega) aoe aeW dh _ _ _ (fun _ => True) (fun _ => False) rfl rfl AO.out (Kd.aN oP.out HB.out) (fun _ _ h => h) (fun _ h => h.elim) (fun _ _ => trivial) HB.out (aj HB.out) (by have := aml.out; omega) ?_; intro auv w_ ho hb hg hat; rw [← alg.out] at ho; (try replace AP := ak (Kd.qm AP.out (Kd.kQ AO.out) (by decide) hg)); (try replace EI := ak (Kd.qm EI.out (Kd.kQ AO.out) (by decide) hg)); (try replace lU := ak (dw lU.out hg (Kd.oU AO.out lU.out (by decide)))); replace kF := ak (dw kF.out hg (Kd.oU AO.out kF.out (by decide))); replace pO := ak (dw pO.out hg (Kd.oU AO.out pO.out (by decide))); replace HB := ak hb; have EH := ak ho; clear AO ho hb hg hat; refine hK.out _ _ sx (fun hHeld => ?_); clear hK K; refine nrm ?_)
    | (refine gn 12 ?_; refine Kd.tX Kd.string (w0 := w) w.heap.size (by rfl) (.tmp 9) (.tmp 11) 23 9 (.string ⟨#[]⟩) 16 rfl Tryz.underlying23 info9 rfl (by decide) (by omega) aof aeX bU _ _ _ (fun _ => True) (fun _ => False) rfl rfl AP.out (Kd.aN rE.out HB.out) (fun _ _ h => h) (fun _ h => h.elim) (fun _ _ => trivial) HB.out (aj HB.out) (by have := ab8.out; omega) ?_; intro auw w_ ho hb hg hat; rw [← alh.out] at ho; (try replace AO := ak (Kd.qm AO.out (Kd.kQ AP.out) (by decide) hg)); (try replace EH := ak (Kd.qm EH.out (Kd.kQ AP.out) (by decide) hg)); (try replace lU := ak (dw lU.out hg (Kd.oU AP.out lU.out (by decide)))); replace kF := ak (dw kF.out hg (Kd.oU AP.out kF.out (by decide))); replace pO := ak (dw pO.out hg (Kd.oU AP.out pO.out (by decide))); replace HB := ak hb; have EI := ak ho; clear AP ho hb hg hat; refine hK.out _ _ sx (fun hHeld => ?_); clear hK K; refine nrm ?_))))
 rintro ⟨aoe, auv, aof, auw, qG⟩ w16 ⟨hS_, h0_, h1_, h2_, h3_, h4_, h5_, h6_, h7_, h8_, h9_, UZ, acC⟩
 have y5 : ah (Kd.R qj 69 w16 w.heap.size (fun _ => True) auv IW) := ⟨h0_⟩
 have y7 : ah (Kd.R Kd.string 9 w16 w.heap.size (fun _ => True) auw IX) := ⟨h1_⟩
 have zT : ah (w16.heap[uh]? = some (.cells #[.slice iY dh.length iZ, .slice iU bU.length iV, .slice gW ay.length fA] 28 (0, 0))) := ⟨h2_⟩
 have Dq : ah (w16.heap[Cm]? = some (.cells #[.slice none 0 0, .slice none 0 0, .slice none 0 0] 28 (0, 0))) := ⟨h3_⟩
 have Ib : ah (w16.heap[qG]? = some (.cells #[.slice none 0 0, .slice none 0 0, .slice none 0 0] 28 (0, 0))) := ⟨h4_⟩
 have Kr : ah (w.heap.size ≤ qG) := ⟨h5_⟩
 have N7 : ah (w.heap.size ≤ qG) := ⟨h6_⟩
 have SS : ah (uh ≠ qG) := ⟨h7_⟩
 have WR : ah (qG ≠ uh) := ⟨h8_⟩
 have n9_ : ah (Cm ≠ qG) := ⟨h9_⟩
 have Qr : ah (qG ≠ Cm) := ⟨UZ⟩
 have aex : ah (Below w.heap.size w w16) := ⟨acC⟩
 clear kF pO HB h0_ h1_ h2_ h3_ h4_ h5_ h6_ h7_ h8_ h9_ UZ acC
 have EH := y5
 have EI := y7
 have kF := zT
 have pO := Dq
 have lU := Ib
 have aeZ := Kr
 have aDt := N7
 have nK := SS
 have wZ := WR
 have yH := n9_
 have yI := Qr
 have HB := aex
 clear y5 y7 zT Dq Ib Kr N7 SS WR n9_ Qr aex
 have hHeld : w16.cell? ⟨uh, 0, none⟩ = some (.slice iY dh.length iZ) ∧ w16.cell? ⟨uh, 1, none⟩ = some (.slice iU bU.length iV) ∧ w16.cell? ⟨uh, 2, none⟩ = some (.slice gW ay.length fA) := hS_
 obtain ⟨Hq, FC, Ws⟩ := Kd.aV EI.out
 (first | subst Ws | (injection Ws with qV xB qW; have xC := qV.symm; have xE := qW.symm; clear qV xB qW; subst xC; subst xE))
 obtain ⟨Hg, Hl, acd⟩ := Kd.aV EH.out
 (first | subst acd | (injection acd with qV xB qW; have xC := qV.symm; have xE := qW.symm; clear qV xB qW; subst xC; subst xE))
 refine qF (a' := ?_) ?_ ?_
 rotate_left
 ·
  simp only [yE, Act.put, qQ, qR, l_c]
  rfl
 refine o1 10 (fun K hK => ?_)
 have aIo : w16.cell? ⟨qG, 0, none⟩ = some (.slice none 0 0) := (aA lU.out 0).trans rfl
 have aDu := gX lU.out 0
 have axB := nK.out
 have axC := yH.out
 have axD := wZ.out
 have axE := yI.out
 have aIp : w16.cell? ⟨qG, 1, none⟩ = some (.slice none 0 0) := (aA lU.out 1).trans rfl
 have aDv := gX lU.out 1
 have axF := nK.out
 have axG := yH.out
 have axH := wZ.out
 have axI := yI.out
 have aIq : w16.cell? ⟨qG, 2, none⟩ = some (.slice none 0 0) := (aA lU.out 2).trans rfl
 have aDw := gX lU.out 2
 have axJ := nK.out
 have axK := yH.out
 have axL := wZ.out
 have axM := yI.out
 refine Ic (w1 := ?_) (by rfl) rfl ?_ ?_
 rotate_left
 ·
  go_simp
  rfl
 refine hK.out _ _ ⟨((cell_far (p := ⟨qG, _, none⟩) nK.out _).trans (((cell_far (p := ⟨qG, _, none⟩) nK.out _).trans (((cell_far (p := ⟨qG, _, none⟩) nK.out _).trans (hHeld.1)))))), ((cell_far (p := ⟨qG, _, none⟩) nK.out _).trans (((cell_far (p := ⟨qG, _, none⟩) nK.out _).trans (((cell_far (p := ⟨qG, _, none⟩) nK.out _).trans (hHeld.2.1)))))), ((cell_far (p := ⟨qG, _, none⟩) nK.out _).trans (((cell_far (p := ⟨qG, _, none⟩) nK.out _).trans (((cell_far (p := ⟨qG, _, none⟩) nK.out _).trans (hHeld.2.2))))))⟩ (fun hHeld => ?_)
 clear hK K
 refine Ie (yQ ug.out (by kernel_rfl)) ?_
 try go_wp2
 go_loopg [4] k (fun kq v4 w' => ∃ (dV : Int) (Ap : List (mY)) (yT : Value), v4 = .int .i64 dV ∧ ah (dK.l0 kq dV dh bU ay IW IX Ap = some (r1, r2, r3)) ∧ ah (kq ≤ k) ∧ ah (Kd.R qj 69 w' w.heap.size (fun _ => True) (.slice Hg IW.length Hl) IW) ∧ ah (Kd.R Kd.string 9 w' w.heap.size (fun _ => True) (.slice Hq IX.length FC) IX) ∧ ah (Kd.R k28 28 w' w.heap.size (fun k_ => some k_ ≠ ((.slice Hg IW.length Hl) : Value).ownBlock ∧ some k_ ≠ ((.slice Hq IX.length FC) : Value).ownBlock ∧ k_ ≠ uh ∧ k_ ≠ Cm ∧ k_ ≠ qG) yT Ap) ∧ ah (w'.heap[uh]? = some (.cells #[(.slice iY dh.length iZ), (.slice iU bU.length iV), (.slice gW ay.length fA)] 28 (0, 0))) ∧ ah (w'.heap[Cm]? = some (.cells #[(.slice none 0 0), (.slice none 0 0), (.slice none 0 0)] 28 (0, 0))) ∧ ah (w'.heap[qG]? = some (.cells #[(.slice Hg IW.length Hl), (.slice Hq IX.length FC), yT] 28 (0, 0))) ∧ ah (Below w.heap.size w w'))
 case atStart => exact ⟨_, _, _, rs, H', ⟨Nat.le_refl _⟩, ⟨rr⟩, ⟨rr⟩, ⟨nx⟩, ⟨bq⟩, ⟨bq⟩, ⟨bq⟩, ⟨bb⟩⟩
 case round =>
  clear H'
  obtain ⟨dV, Ap, yT, rfl, HA, xG, ru, rC, ou, kF, pO, lU, HB⟩ := hrel
  cases gk with
  | zero => exact zz HA.out
  | succ k1 =>
   obtain ⟨H⟩ := HA
   simp only [dK.l0] at H
   replace H := sd H
   rcases H with ⟨Fv, H⟩ | ⟨Fv, H⟩
   ·
    replace H := oL H; obtain ⟨zh, H⟩ := H; replace H := bd H
    obtain ⟨⟨ae0, ae1, ae2⟩, Yx, H⟩ := H
    (try dsimp only at H)
    replace H := nl H; obtain ⟨V9, H⟩ := H
    obtain ⟨aIr, ali⟩ := nm (Ap ++ [(⟨ae0, ae1, ae2⟩ : mY)])
    rw [← ali.out] at H
    have H' := ak H; clear H
    have auk := Tf.out
    have aul := Ti.out
    have ajO := nK.out
    have ajP := wZ.out
    have aKa := jW kF.out
    try go_wp2
    replace ru := ak (Kd.l9 ru.out)
    replace rC := ak (Kd.l9 rC.out)
    replace ou := ak (Kd.l9 ou.out)
    replace kF := ak (bC kF.out)
    replace pO := ak (bC pO.out)
    replace lU := ak (bC lU.out)
    replace HB := ak (iF HB.out)
    have aog := zi dV
    have aoh := zj dV ay.length
    obtain ⟨Kz, ae3, ae4, ae5, ae6, ae7, ae8, aAm, Ph, Pj, Pm, aa9, aa_, abb, abd, abe, abf⟩ := yB jh.out dV aog aoh
    have yU := Pm
    have yV := Pj
    have yX := Ph
    cases aAm
    replace Ph := cl HB.out Ph
    replace Pj := cl HB.out Pj
    replace Pm := cl HB.out Pm
    have abg := ak aa_
    have aik := ak aa9
    clear aa_ aa9
    have abh := ak abd
    have ail := ak abb
    clear abd abb
    have abj := ak abf
    have ain := ak abe
    clear abf abe
    replace aog := eq_true aog
    replace aoh := eq_true aoh
    refine Df (n := 12) (S := fun w' => w'.cell? ⟨qG, 0, none⟩ = some (.slice Hg IW.length Hl) ∧ w'.cell? ⟨qG, 1, none⟩ = some (.slice Hq IX.length FC) ∧ w'.cell? ⟨qG, 2, none⟩ = some (yT) ∧ w'.cell? ⟨uh, 0, none⟩ = some (.slice iY dh.length iZ) ∧ w'.cell? ⟨uh, 1, none⟩ = some (.slice iU bU.length iV) ∧ w'.cell? ⟨uh, 2, none⟩ = some (.slice (some Kz) ay.length fA) ∧ w'.cell? (Kz.add ((dV).toNat * 3)) = some (.slice ae3 ((bg ay dV).f0).length ae4) ∧ w'.cell? ⟨(Kz.add ((dV).toNat * 3)).block, (Kz.add ((dV).toNat * 3)).off + 1, none⟩ = some (.slice ae5 ((bg ay dV).f1).length ae6) ∧ w'.cell? ⟨(Kz.add ((dV).toNat * 3)).block, (Kz.add ((dV).toNat * 3)).off + 2, none⟩ = some (.slice ae7 ((bg ay dV).f2).length ae8)) (ds := [11]) #[false, false, false, false, false, false, false, false, false, false, false, false] (by kernel_rfl) rfl rfl ⟨(aA lU.out 0).trans rfl, (aA lU.out 1).trans rfl, (aA lU.out 2).trans rfl, (aA kF.out 0).trans rfl, (aA kF.out 1).trans rfl, (aA kF.out 2).trans rfl, ((HB.out.cell (World.block_lt_of_cell? w _ yX)).trans yX), ((HB.out.cell (World.block_lt_of_cell? w _ yV)).trans yV), ((HB.out.cell (World.block_lt_of_cell? w _ yU)).trans yU)⟩ (fun hHeld => ?_); refine uo dK.aod dK.aeY (fun ug Yd => ?_)
    generalize wr.drew = w29 at ru rC ou kF pO lU HB abg abh abj Ph Pj Pm hHeld ⊢
    refine pl 0 ?_
    refine pl 2 ?_
    refine pl 4 ?_
    refine tk 1 ?_
    refine tk 3 ?_
    refine pl 5 ?_
    refine tk 6 ?_
    refine o1 7 (fun K hK => ?_)
    refine y8 Tryz.func110 (by kernel_rfl) rfl #[.agg #[.slice ae3 ((bg ay dV).f0).length ae4, .slice ae5 ((bg ay dV).f1).length ae6, .slice ae7 ((bg ay dV).f2).length ae8]] (by rfl) rfl rfl ma ?_
    with_reducible refine (ih k1 (by have := xG.out; omega) _ _ ((bg ay dV).f0) _ _ ((bg ay dV).f1) _ _ ((bg ay dV).f2) ae0 ae1 ae2 _ ?fU ?iW ?zk ?Dx ?zl ?auy Yx.out).mono ?_
    (case fU => repeat (first | exact (Kd.aN abg.out HB.out) | (with_reducible refine Kd.jf ?_ _) | (with_reducible refine Kd.jg ?_ _) | (with_reducible refine Kd.kH ?_)))
    (case iW => exact aik.out)
    (case zk => repeat (first | exact (Kd.aN abh.out HB.out) | (with_reducible refine Kd.jf ?_ _) | (with_reducible refine Kd.jg ?_ _) | (with_reducible refine Kd.kH ?_)))
    (case Dx => exact ail.out)
    (case zl => repeat (first | exact (Kd.aN abj.out HB.out) | (with_reducible refine Kd.jf ?_ _) | (with_reducible refine Kd.jg ?_ _) | (with_reducible refine Kd.kH ?_)))
    (case auy => exact ain.out)
    rintro e w30 ⟨aIs, aIt, aIu, rfl, ho0, ho1, ho2, hb⟩
    refine ⟨_, rfl, ?_⟩
    have ae9 := ak (Kd.aC (Kd.gK ho0 (Kd.kU (ur ru.out))) (aj bb))
    have ae_ := ak (Kd.aC (Kd.gK ho1 (Kd.kU (ur rC.out))) (aj bb))
    have afa := ak (Kd.aC (Kd.nN (Kd.nN (Kd.nN (Kd.gK (Kd.gK (Kd.gK ho2 (Kd.kU (ur ru.out))) (Kd.kU (ur rC.out))) (Kd.kU (ur ou.out))) (g := uh) (o := .cells #[.slice iY dh.length iZ, .slice iU bU.length iV, .slice (some Kz) ay.length fA] 28 (0, 0)) (ub kF.out)) (g := Cm) (o := .cells #[.slice none 0 0, .slice none 0 0, .slice none 0 0] 28 (0, 0)) (ub pO.out)) (g := qG) (o := .cells #[.slice Hg IW.length Hl, .slice Hq IX.length FC, yT] 28 (0, 0)) (ub lU.out)) (aj bb))
    replace ru := ak (Kd.fP (ur ru.out) (Kd.fO ho0) hb)
    replace rC := ak (Kd.fP (ur rC.out) (Kd.fO ho1) hb)
    replace ou := ak (Kd.bn (Kd.tV (Kd.tV (Kd.tV (Kd.adu (ur ou.out) hb) (Kd.fO ho0)) (Kd.fO ho1)) (Kd.fO ho2)) (fun _ h_ => h_.1))
    replace kF := kb kF hb
    replace pO := kb pO hb
    replace lU := kb lU hb
    replace HB := bz HB hb
    try clear hb
    try clear ho0
    try clear ho1
    try clear ho2
    obtain ⟨aAn, aAo, auz⟩ := Kd.aV ae9.out
    (first | subst auz | (injection auz with qV xB qW; have xC := qV.symm; have xE := qW.symm; clear qV xB qW; subst xC; subst xE))
    obtain ⟨RX, RY, aey⟩ := Kd.aV ae_.out
    (first | subst aey | (injection aey with qV xB qW; have xC := qV.symm; have xE := qW.symm; clear qV xB qW; subst xC; subst xE))
    obtain ⟨aq1, aq2, adY⟩ := Kd.aV afa.out
    (first | subst adY | (injection adY with qV xB qW; have xC := qV.symm; have xE := qW.symm; clear qV xB qW; subst xC; subst xE))
    refine hK.out _ _ ⟨(aA lU.out 0).trans rfl, (aA lU.out 1).trans rfl, (aA lU.out 2).trans rfl, (aA kF.out 0).trans rfl, (aA kF.out 1).trans rfl, (aA kF.out 2).trans rfl, ((HB.out.cell (World.block_lt_of_cell? w _ yX)).trans yX), ((HB.out.cell (World.block_lt_of_cell? w _ yV)).trans yV), ((HB.out.cell (World.block_lt_of_cell? w _ yU)).trans yU)⟩ (fun hHeld => ?_)
    clear hK K
    refine nrm ?_
    refine o1 8 (fun K hK => ?_)
    refine Dh (w1 := ?_) (v := ?_) (by rfl) rfl ?_ ?_
    rotate_left 2
    ·
     go_simp
     constructor
     ·
      rfl
     ·
      rfl
    refine hK.out _ _ ⟨(aA (aX lU.out _) 0).trans rfl, (aA (aX lU.out _) 1).trans rfl, (aA (aX lU.out _) 2).trans rfl, (aA (aX kF.out _) 0).trans rfl, (aA (aX kF.out _) 1).trans rfl, (aA (aX kF.out _) 2).trans rfl, (World.cell?_alloc_lt _ _ _ (World.block_lt_of_cell? _ _ (((HB.out.cell (World.block_lt_of_cell? w _ yX)).trans yX)))).trans (((HB.out.cell (World.block_lt_of_cell? w _ yX)).trans yX)), (World.cell?_alloc_lt _ _ _ (World.block_lt_of_cell? _ _ (((HB.out.cell (World.block_lt_of_cell? w _ yV)).trans yV)))).trans (((HB.out.cell (World.block_lt_of_cell? w _ yV)).trans yV)), (World.cell?_alloc_lt _ _ _ (World.block_lt_of_cell? _ _ (((HB.out.cell (World.block_lt_of_cell? w _ yU)).trans yU)))).trans (((HB.out.cell (World.block_lt_of_cell? w _ yU)).trans yU))⟩ (fun hHeld => ?_)
    clear hK K
    refine nrm ?_
    refine o1 9 (fun K hK => ?_)
    refine Kd.nS k28 (w0 := w) w.heap.size (by rfl) (.tmp 22) (.tmp 29) 26 28 (.agg #[(.slice none 0 0), (.slice none 0 0), (.slice none 0 0)]) 72 rfl Tryz.underlying26 T_ rfl (by decide) (by omega) yT Ap (⟨ae0, ae1, ae2⟩ : mY) [.slice aAn ae0.length aAo, .slice RX ae1.length RY, .slice aq1 ae2.length aq2] (fun k_ => some k_ ≠ (.slice Hg IW.length Hl : Value).ownBlock ∧ some k_ ≠ (.slice Hq IX.length FC : Value).ownBlock ∧ k_ ≠ uh ∧ k_ ≠ Cm ∧ k_ ≠ qG) (fun k_ => ((fun k_ => some k_ ≠ (.slice Hg IW.length Hl : Value).ownBlock ∧ some k_ ≠ (.slice Hq IX.length FC : Value).ownBlock ∧ k_ ≠ uh ∧ k_ ≠ Cm ∧ k_ ≠ qG)) k_ ∧ some k_ ≠ (yT : Value).ownBlock) rfl rfl ?aP (fun _ hk => hk) ?aF ?aO ?aB ?aS ?aL ?_
    (case aP => exact OY _ _ _ (⟨ae0, ae1, ae2⟩ : mY) (Kd.bn (Kd.mG (Kd.mG (Kd.mG (Kd.o8 (Kd.o8 (ae9.out) (Kd.kQ rC.out) (by decide)) (Kd.kQ ou.out) (by decide)) kF.out (by decide)) pO.out (by decide)) lU.out (by decide)) (fun k_ hk => ⟨⟨hk.1.1.1.1.1.2, ⟨hk.1.1.1.1.2, ⟨hk.1.1.2, ⟨hk.1.2, hk.2⟩⟩⟩⟩, hk.1.1.1.2⟩)) (Kd.bn (Kd.mG (Kd.mG (Kd.mG (Kd.o8 (Kd.o8 (ae_.out) (Kd.kQ ru.out) (by decide)) (Kd.kQ ou.out) (by decide)) kF.out (by decide)) pO.out (by decide)) lU.out (by decide)) (fun k_ hk => ⟨⟨hk.1.1.1.1.2, ⟨hk.1.1.1.1.1.2, ⟨hk.1.1.2, ⟨hk.1.2, hk.2⟩⟩⟩⟩, hk.1.1.1.2⟩)) (Kd.bn (afa.out) (fun k_ hk => ⟨⟨hk.1.1.1.1.1.2, ⟨hk.1.1.1.1.2, ⟨hk.1.1.2, ⟨hk.1.2, hk.2⟩⟩⟩⟩, hk.1.1.1.2⟩)))
    (case aB => exact bb)
    (case aF => exact (fun k_ hk => ⟨Kd.fresh' (Kd.kU (ur ru.out)) k_ hk, Kd.fresh' (Kd.kU (ur rC.out)) k_ hk, Kd.yC (g := uh) (o := .cells #[.slice iY dh.length iZ, .slice iU bU.length iV, .slice (some Kz) ay.length fA] 28 (0, 0)) (ub kF.out) k_ hk, Kd.yC (g := Cm) (o := .cells #[.slice none 0 0, .slice none 0 0, .slice none 0 0] 28 (0, 0)) (ub pO.out) k_ hk, Kd.yC (g := qG) (o := .cells #[.slice Hg IW.length Hl, .slice Hq IX.length FC, yT] 28 (0, 0)) (ub lU.out) k_ hk⟩))
    (case aO => exact (ur (Kd.bn ou.out (fun _ hk => ⟨hk.1.1.1.1, ⟨hk.1.1.1.2.1, ⟨hk.1.1.1.2.2.1, ⟨hk.1.1.1.2.2.2.1, hk.1.1.1.2.2.2.2⟩⟩⟩⟩))))
    (case aS => exact (aj bb))
    (case aL => have := V9.out; omega)
    intro aIv w31 ho hb hg hat
    rw [← ali.out] at ho
    have y5 := ak (Kd.qm (ur ru.out) (Kd.kQ (ur ou.out)) (by decide) hg)
    have y7 := ak (Kd.qm (ur rC.out) (Kd.kQ (ur ou.out)) (by decide) hg)
    have zT := ak (dw (g := uh) (o := .cells #[.slice iY dh.length iZ, .slice iU bU.length iV, .slice (some Kz) ay.length fA] 28 (0, 0)) (ub kF.out) hg (Kd.zD ou.out (fun _ hk => hk.1.1.1.2.2.1)))
    have Dq := ak (dw (g := Cm) (o := .cells #[.slice none 0 0, .slice none 0 0, .slice none 0 0] 28 (0, 0)) (ub pO.out) hg (Kd.zD ou.out (fun _ hk => hk.1.1.1.2.2.2.1)))
    have Ib := ak (dw (g := qG) (o := .cells #[.slice Hg IW.length Hl, .slice Hq IX.length FC, yT] 28 (0, 0)) (ub lU.out) hg (Kd.zD ou.out (fun _ hk => hk.1.1.1.2.2.2.2)))
    have Kr := ak (hb)
    have N7 := ak (ho)
    clear ru rC kF pO lU HB ou ae9 ae_ afa
    have ru := y5
    have rC := y7
    have kF := zT
    have pO := Dq
    have lU := Ib
    have HB := Kr
    have auA := N7
    clear y5 y7 zT Dq Ib Kr N7 ho hb hg hat
    obtain ⟨aIw, aIx, auB⟩ := Kd.aV auA.out
    (first | subst auB | (injection auB with qV xB qW; have xC := qV.symm; have xE := qW.symm; clear qV xB qW; subst xC; subst xE))
    refine hK.out _ _ ⟨(aA lU.out 0).trans rfl, (aA lU.out 1).trans rfl, (aA lU.out 2).trans rfl, (aA kF.out 0).trans rfl, (aA kF.out 1).trans rfl, (aA kF.out 2).trans rfl, ((HB.out.cell (World.block_lt_of_cell? w _ yX)).trans yX), ((HB.out.cell (World.block_lt_of_cell? w _ yV)).trans yV), ((HB.out.cell (World.block_lt_of_cell? w _ yU)).trans yU)⟩ (fun hHeld => ?_)
    clear hK K
    refine nrm ?_
    refine pl 10 ?_
    refine Ia (i := 11) (N := none) #[true, true, true, true, true, true, true, true, true, true, true, true] rfl rfl (oK ug.out (by kernel_rfl)) (by decide) (fun K hK => ?_)
    have azN : w31.cell? ⟨qG, 2, none⟩ = some (yT) := (aA lU.out 2).trans rfl
    have atG := gX lU.out 2
    have ah4 := nK.out
    have ah5 := yH.out
    have ah6 := wZ.out
    have ah7 := yI.out
    refine Ic (w1 := ?_) (by rfl) rfl ?_ ?_
    rotate_left
    ·
     go_simp
     rfl
    refine hK.out _ _ ?_
    clear hK K
    refine Ie (yQ ug.out (by kernel_rfl)) ?_
    try go_wp2
    go_roundg k1
    case measure => exact kl
    case rel => exact ⟨_, _, _, rs, H', ⟨kl⟩, ⟨rr⟩, ⟨rr⟩, ⟨rr⟩, ⟨bq⟩, ⟨bq⟩, ⟨bq⟩, ⟨bb⟩⟩
   ·
    obtain ⟨rfl, rfl, rfl⟩ := s3 H
    have atH := Tf.out
    have atI := Ti.out
    have atJ := nK.out
    have atK := wZ.out
    have z39 := jW kF.out
    have alj := yI.out
    have alk := yH.out
    have aKb := jW lU.out
    have z42 := jW pO.out
    obtain ⟨aAp, aAq, aAr⟩ := Kd.aV ou.out
    subst aAr
    go_wp2
    refine bodyPost_ret (results_cell_row rfl _ _ Cm 28 #[.slice Hg IW.length Hl, .slice Hq IX.length FC, .slice aAp Ap.length aAq] (0, 0) _ rfl bq Tryz.underlying28 rfl (by kernel_rfl)) rfl ?_
    exact ⟨_, _, _, er, rr, rr, rr, bb⟩
end Go.Proofs.YtncdadcmghglkaaGreatDoor.PFnKidValid
