/- Printed walks; conditions: those in each statement. -/
import Derived.Test.YtncdadcmghglkaaGreatDoorVFnKidValidQt
import Derived.Test.YtncdadcmghglkaaGreatDoorVFnKidValidYt
import Derived.Test.YtncdadcmghglkaaGreatDoorPFnKidValidx0
import Derived.Test.YtncdadcmghglkaaGreatDoorPFnKidValidx10
import Derived.Test.YtncdadcmghglkaaGreatDoorPFnKidValidx11
-- short
-- dense
-- sq
-- sq2
namespace Go.Proofs.YtncdadcmghglkaaGreatDoor.PFnKidValid
open Go.RowKit Go.Proofs.YtncdadcmghglkaaGreatDoor.X Go.Proofs.YtncdadcmghglkaaGreatDoorW.bI Go.Proofs.YtncdadcmghglkaaGreatDoorW.gq Go.Proofs.YtncdadcmghglkaaGreatDoorW.iJ
attribute [local go_sem] kJ kK mD mF jv jw kL kM   -- for this text's walks alone
set_option linter.unusedVariables false
set_option maxHeartbeats 8000000
set_option maxRecDepth 100000
set_option linter.unusedSimpArgs false
mutual
def gu.l0 : Nat → Int → List (mY) → Int → Int → Option (Int)
 | 0, _, _, _, _ => none
 | k + 1, x3, x11, x12, MC => if MC < x12 then (if 0 ≤ MC then (if MC < (x11.length : Int) then ((gu.f k ((bg x11 MC).f0) ((bg x11 MC).f1) ((bg x11 MC).f2)).bind fun anC => (gu.l0 k (wrap64 (x3 + anC)) x11 x12 (wrap64 (MC + 1)))) else (none)) else (none)) else (some x3)
def gu.f : Nat → List (gU) → List ByteArray → List (mY) → Option (Int)
 | 0, _, _, _ => none
 | k + 1, dh, bU, ay => if (ay.length : Int) = 0 then (some 1) else (gu.l0 k 0 ay (ay.length : Int) 0)
end
theorem gu.calls (k : Nat) : ∀ (iY : Option Addr) (iZ : Nat) (dh : List (gU)) (iU : Option Addr) (iV : Nat) (bU : List ByteArray) (gW : Option Addr) (fA : Nat) (ay : List (mY)) (r : Int) (w : World) (lW : Kd.C qj w iY dh.length dh) (lX : dh.length ≤ iZ) (lY : Kd.C Kd.string w iU bU.length bU) (lZ : bU.length ≤ iV) (jG : Kd.C k28 w gW ay.length ay) (jH : ay.length ≤ fA) (h : gu.f k dh bU ay = some r),
  Calls Tryz.prog 78 #[.agg #[.slice iY dh.length iZ, .slice iU bU.length iV, .slice gW ay.length fA]] w fun e w' => e = .returned (.int .i64 r) ∧ Below w.heap.size w w' := by
 induction k using Nat.strongRecOn with
 | _ k ih =>
 intro iY iZ dh iU iV bU gW fA ay r w lW lX lY lZ jG jH h
 cases k with
 | zero => exact absurd h (by simp [gu.f])
 | succ k =>
 simp only [gu.f] at h
 have Dj := Tryz.underlying28
 have oP := ak lW
 have pI := ak lX
 clear lW lX
 have rE := ak lY
 have uG := ak lZ
 clear lY lZ
 have jh := ak jG
 have lC := ak jH
 clear jG jH
 have HB := ak (Below.refl w.heap.size w)
 have H := h
 clear h
 replace H := sp H
 rcases H with ⟨c2, H⟩ | ⟨c2, H⟩
 ·
  have nT := beq_iff_eq.mpr c2
  have uF := bne_eq_false_iff_eq.mpr c2
  clear c2
  obtain rfl := s1 H
  go_enter Tryz.func78, Tryz.ntmps78
  go_wp2_with (refine bX HB 1 #[.slice iY dh.length iZ, .slice iU bU.length iV, .slice gW ay.length fA] 28 ?_; intro aki w3 EF ar5 hb; replace HB := bs HB hb; clear hb; have z4 := jW EF.out)
  go_ret
  exact ⟨er, bb⟩
 ·
  have nT := beq_eq_false_iff_ne.mpr c2
  have uF := bne_iff_ne.mpr c2
  have Yp : ¬ (ay = []) := fun h_ => c2 (by rw [h_]; rfl)
  have H' := ak H; clear H
  go_enter Tryz.func78, Tryz.ntmps78
  go_wp2_with (refine bX HB 1 #[.slice iY dh.length iZ, .slice iU bU.length iV, .slice gW ay.length fA] 28 ?_; intro aki w5 EF ar5 hb; replace HB := bs HB hb; clear hb; have z6 := jW EF.out)
  go_loopg [3, 13] k (fun kq v3 v13 w' => ∃ (dM : Int) (sV : Int), v3 = .int .i64 dM ∧ v13 = .int .i64 sV ∧ ah (gu.l0 kq dM ay (ay.length : Int) sV = some r) ∧ ah (kq ≤ k) ∧ ah (w'.heap[aki]? = some (.cells #[(.slice iY dh.length iZ), (.slice iU bU.length iV), (.slice gW ay.length fA)] 28 (0, 0))) ∧ ah (Below w.heap.size w w'))
  case atStart => exact ⟨_, _, rs, rs, H', ⟨Nat.le_refl _⟩, ⟨ub EF.out⟩, ⟨bb⟩⟩
  case round =>
   clear H'
   try clear c2
   try clear nT
   try clear uF
   try clear Yp
   obtain ⟨dM, sV, rfl, rfl, HA, xG, EF, HB⟩ := hrel
   cases gk with
   | zero => exact zz HA.out
   | succ k1 =>
    obtain ⟨H⟩ := HA
    simp only [gu.l0] at H
    replace H := sd H
    rcases H with ⟨sD, H⟩ | ⟨sD, H⟩
    ·
     replace H := oL H; obtain ⟨tu, H⟩ := H; replace H := oL H; obtain ⟨yh, H⟩ := H; replace H := bd H; obtain ⟨anC, VN, H⟩ := H
     have H' := ak H; clear H
     have anD := zi sV
     have anE := zj sV ay.length
     obtain ⟨ar6, anF, anG, anH, anI, anJ, anK, aze, aax, aay, aaz, aaA, aaB, aaC, aaD, aaE, aaF⟩ := yB jh.out sV anD anE
     cases aze
     replace aax := cl HB.out aax
     replace aay := cl HB.out aay
     replace aaz := cl HB.out aaz
     have ahK := ak aaB
     have ahL := ak aaA
     clear aaB aaA
     have ahM := ak aaD
     have ahN := ak aaC
     clear aaD aaC
     have ahO := ak aaF
     have ahP := ak aaE
     clear aaF aaE
     replace anD := eq_true anD
     replace anE := eq_true anE
     go_wp2_with (first | (refine bY HB 5 #[.slice none 0 0, .slice none 0 0, .slice none 0 0] 28 ?_; intro aCx Ub aed aCy hg hb; have acz := BL EF hg; have acA := BM EF hg; replace EF := kb EF hb; replace HB := bz HB hb; clear hb hg; have ar7 := acA.out; have ar8 := acz.out; have z13 := jW aed.out) | (refine gB Tryz.func78 (ih k1 (by have := xG.out; omega) _ _ ((bg ay sV).f0) _ _ ((bg ay sV).f1) _ _ ((bg ay sV).f2) anC _ (Kd.aN ahK.out bb) ahL.out (Kd.aN ahM.out bb) ahN.out (Kd.aN ahO.out bb) ahP.out VN.out) ?_; intro SA hb; replace EF := kp EF #[.slice iY dh.length iZ, .slice iU bU.length iV, .slice (some ar6) ay.length fA] hb; replace aed := kp aed #[.slice anF ((bg ay sV).f0).length anG, .slice anH ((bg ay sV).f1).length anI, .slice anJ ((bg ay sV).f2).length anK] hb; replace HB := bz HB hb; clear hb))
     go_roundg k1
     case measure => exact kl
     case rel => exact ⟨_, _, rs, rs, H', ⟨kl⟩, ⟨ub EF.out⟩, ⟨bb⟩⟩
    ·
     obtain rfl := s1 H
     go_wp2
     go_ret
     exact ⟨er, bb⟩
def nG.f (k : Nat) (dh : List (gU)) (bU : List ByteArray) (ay : List (mY)) : Option (Int) := (lF.f k dh bU ay).bind fun ar9 => (if ar9 = true then ((gu.f k dh bU ay).bind fun anL => (some anL)) else (some 0))
theorem nG.calls {k iZ iV fA : Nat} {iY iU gW : Option Addr} {dh : List (gU)} {bU : List ByteArray} {ay : List (mY)} {r : Int} {w : World} (lW : Kd.C qj w iY dh.length dh) (lX : dh.length ≤ iZ) (lY : Kd.C Kd.string w iU bU.length bU) (lZ : bU.length ≤ iV) (jG : Kd.C k28 w gW ay.length ay) (jH : ay.length ≤ fA) (BX : MaxOk w) (h : nG.f k dh bU ay = some r) :
  Calls Tryz.prog 34 #[.agg #[.slice iY dh.length iZ, .slice iU bU.length iV, .slice gW ay.length fA]] w fun e w' => e = .returned (.int .i64 r) ∧ Below w.heap.size w w' := by
 have Dj := Tryz.underlying28
 have oP := ak lW
 have pI := ak lX
 clear lW lX
 have rE := ak lY
 have uG := ak lZ
 clear lY lZ
 have jh := ak jG
 have lC := ak jH
 clear jG jH
 have HG := ak BX
 clear BX
 have HB := ak (Below.refl w.heap.size w)
 unfold nG.f at h; have H := h
 clear h
 replace H := bd H; obtain ⟨ar9, A2, H⟩ := H; replace H := sb H
 rcases H with ⟨rfl, H⟩ | ⟨rfl, H⟩
 ·
  replace H := bd H; obtain ⟨anL, A4, H⟩ := H
  obtain rfl := s1 H
  go_enter Tryz.func34, Tryz.ntmps34
  go_wp2_with (first | (refine bX HB 1 #[.slice iY dh.length iZ, .slice iU bU.length iV, .slice gW ay.length fA] 28 ?_; intro ar_ w5 Ih asa hb; replace HB := bs HB hb; clear hb; have z6 := jW Ih.out) | (refine gB Tryz.func26 (lF.calls (cu (Kd.aN oP.out HB.out)) pI.out (cu (Kd.aN rE.out HB.out)) uG.out (cu (Kd.aN jh.out HB.out)) lC.out ?uS A2.out) ?_; (case uS => first | exact HG.out | exact MaxOk.below HG.out bb | (repeat (first | exact HG.out | apply MaxOk.drewN | apply MaxOk.drew))); intro w7 hb; replace Ih := kb Ih hb; replace HB := bz HB hb; clear hb; have z8 := jW Ih.out) | (refine gB Tryz.func78 (gu.calls k _ _ dh _ _ bU _ _ ay anL _ (cu (Kd.aN oP.out HB.out)) pI.out (cu (Kd.aN rE.out HB.out)) uG.out (cu (Kd.aN jh.out HB.out)) lC.out A4.out) ?_; intro w9 hb; replace Ih := kb Ih hb; replace HB := bz HB hb; clear hb))
  go_ret
  exact ⟨er, bb⟩
 ·
  obtain rfl := s1 H
  go_enter Tryz.func34, Tryz.ntmps34
  go_wp2_with (first | (refine bX HB 1 #[.slice iY dh.length iZ, .slice iU bU.length iV, .slice gW ay.length fA] 28 ?_; intro ar_ w10 Ih asa hb; replace HB := bs HB hb; clear hb; have z11 := jW Ih.out) | (refine gB Tryz.func26 (lF.calls (cu (Kd.aN oP.out HB.out)) pI.out (cu (Kd.aN rE.out HB.out)) uG.out (cu (Kd.aN jh.out HB.out)) lC.out ?uS A2.out) ?_; (case uS => first | exact HG.out | exact MaxOk.below HG.out bb | (repeat (first | exact HG.out | apply MaxOk.drewN | apply MaxOk.drew))); intro w12 hb; replace Ih := kb Ih hb; replace HB := bz HB hb; clear hb))
  go_ret
  exact ⟨er, bb⟩
/-- A state of type 109 at block g of W; what its slices lead to came in by w0. -/
def aK (w0 W : World) (g : Nat) (f0 : List Int) (f1 : Int) : Prop := ∃ A0 c0, W.heap[g]? = some (.cells #[.slice A0 f0.length c0, .int .i64 f1] 109 (0, 0)) ∧ w0.heap.size ≤ g ∧ Kd.C (Kd.int .u8) w0 A0 f0.length f0
theorem aK.grown {w0 W : World} {g : Nat} {f0 : List Int} {f1 : Int} {W1 : World} {row : Option Nat} (h : aK w0 W g f0 f1) (hw : W.grownBy W1 row) (hne : some g ≠ row) : aK w0 W1 g f0 f1 := by
 obtain ⟨A0, c0, hb, hg, hr0⟩ := h
 exact ⟨A0, c0, dw hb hw hne, hg, hr0⟩
theorem aK.axc {w0 W : World} {g : Nat} {f0 : List Int} {f1 : Int} {α : Type} {d : Kd α} {e : Nat} {base : Nat} {ok : Nat → Prop} {v : Value} {xs : List α} (h : aK w0 W g f0 f1) (ho : Kd.N d e W base ok v xs) (ht : e ≠ 109) : some g ≠ v.ownBlock := by
 obtain ⟨A0, c0, hb, hg, hr0⟩ := h
 exact Kd.azf ho hb ht
theorem aK.fresh {w0 W : World} {g : Nat} {f0 : List Int} {f1 : Int} (h : aK w0 W g f0 f1) : ∀ k, W.heap.size ≤ k → k ≠ g := by
 obtain ⟨A0, c0, hb, hg, hr0⟩ := h
 exact Kd.yC hb
theorem aK.kept {w0 W : World} {g : Nat} {f0 : List Int} {f1 : Int} {W1 : World} {S : Nat → Prop} (h : aK w0 W g f0 f1) (hk : Kept W W1 S) (hne : ¬ S g) : aK w0 W1 g f0 f1 := by
 obtain ⟨A0, c0, hb, hg, hr0⟩ := h
 exact ⟨A0, c0, aee hb hk hne, hg, hr0⟩
theorem aK.below {w0 W : World} {g : Nat} {f0 : List Int} {f1 : Int} {W1 : World} (h : aK w0 W g f0 f1) (hw : Below W.heap.size W W1) : aK w0 W1 g f0 f1 := h.grown (FD hw none) (by simp)
theorem aK.alloc {w0 W : World} {g : Nat} {f0 : List Int} {f1 : Int} (h : aK w0 W g f0 f1) (o : Obj) : aK w0 (W.alloc o) g f0 f1 := h.below (mO (Below.refl _ _) o)
theorem aK.drewN {w0 W : World} {g : Nat} {f0 : List Int} {f1 : Int} (h : aK w0 W g f0 f1) (m : Nat) : aK w0 (W.drewN m) g f0 f1 := h
theorem aK.drew {w0 W : World} {g : Nat} {f0 : List Int} {f1 : Int} (h : aK w0 W g f0 f1) : aK w0 W.drew g f0 f1 := h
theorem aK.at_ {w0 W : World} {g : Nat} {f0 : List Int} {f1 : Int} {w' : World} {m : Nat} (hq : W.drewN m = w') (h : aK w0 W g f0 f1) : aK w0 w' g f0 f1 := by subst hq; exact aK.drewN h m
theorem aK.apart {w0 W : World} {g : Nat} {f0 : List Int} {f1 : Int} {α : Type} {d : Kd α} {e : Nat} {base : Nat} {ok : Nat → Prop} {v : Value} {xs : List α} (h : aK w0 W g f0 f1) (ho : d.R e W base ok v xs) (ht : ∀ q, q ∈ e :: d.E → q ≠ 109) : d.R e W base (fun k => ok k ∧ k ≠ g) v xs := by
 obtain ⟨A0, c0, hb, hg, hr0⟩ := h
 exact Kd.mG ho hb ht
theorem aK.own_ne {w0 W : World} {g : Nat} {f0 : List Int} {f1 : Int} {α : Type} {d : Kd α} {e : Nat} {base : Nat} {ok : Nat → Prop} {v : Value} {xs : List α} (h : aK w0 W g f0 f1) (ho : d.R e W base ok v xs) (ht : e ≠ 109) : some g ≠ v.ownBlock := by
 obtain ⟨A0, c0, hb, hg, hr0⟩ := h
 exact Kd.oU ho hb ht
theorem aK.azg {w0 W : World} {g : Nat} {f0 : List Int} {f1 : Int} {α : Type} {d : Kd α} {e : Nat} {base : Nat} {ok : Nat → Prop} {v : Value} {xs : List α} (h : aK w0 W g f0 f1) (ho : d.Q e W base ok v xs) (ht : ∀ q, q ∈ e :: d.E → q ≠ 109) : d.Q e W base (fun k => ok k ∧ k ≠ g) v xs := by
 obtain ⟨A0, c0, hb, hg, hr0⟩ := h
 exact Kd.ahQ ho hb ht
theorem aK.axd {w0 W : World} {g : Nat} {f0 : List Int} {f1 : Int} {α : Type} {d : Kd α} {e : Nat} {base : Nat} {ok : Nat → Prop} {v : Value} {xs : List α} (h : aK w0 W g f0 f1) (ho : d.Q e W base ok v xs) (ht : e ≠ 109) : some g ≠ v.ownBlock := by
 obtain ⟨A0, c0, hb, hg, hr0⟩ := h
 exact Kd.azh ho hb ht
theorem aK.azi {w0 W : World} {g : Nat} {f0 : List Int} {f1 : Int} {α : Type} {d : Kd α} {e : Nat} {base : Nat} {ok : Nat → Prop} {v : Value} {xs : List α} (h : aK w0 W g f0 f1) (ho : d.S e W base ok v xs) (ht : ∀ q, q ∈ e :: d.E → q ≠ 109) : d.S e W base (fun k => ok k ∧ k ≠ g) v xs := by
 obtain ⟨A0, c0, hb, hg, hr0⟩ := h
 exact Kd.Um ho hb ht
theorem aK.axe {w0 W : World} {g : Nat} {f0 : List Int} {f1 : Int} {α : Type} {d : Kd α} {e : Nat} {base : Nat} {ok : Nat → Prop} {v : Value} {xs : List α} (h : aK w0 W g f0 f1) (ho : d.S e W base ok v xs) (ht : e ≠ 109) : some g ≠ v.ownBlock := by
 obtain ⟨A0, c0, hb, hg, hr0⟩ := h
 exact Kd.aha ho hb ht
theorem aK.lt {w0 W : World} {g : Nat} {f0 : List Int} {f1 : Int} (h : aK w0 W g f0 f1) : g < W.heap.size := by
 obtain ⟨A0, c0, hb, hg, hr0⟩ := h
 exact xQ hb
theorem aK.ge {w0 W : World} {g : Nat} {f0 : List Int} {f1 : Int} (h : aK w0 W g f0 f1) : w0.heap.size ≤ g := by
 obtain ⟨A0, c0, hb, hg, hr0⟩ := h
 exact hg
theorem aK.aef {w0 W : World} {g : Nat} {f0 : List Int} {f1 : Int} {a : Nat} {cs : Array Value} {t : TypeId} {fr : Nat × Nat} (h : aK w0 W g f0 f1) (hb2 : W.heap[a]? = some (.cells cs t fr)) (ht : t ≠ 109) : g ≠ a := by
 obtain ⟨A0, c0, hb, hg, hr0⟩ := h
 rintro rfl
 rw [hb] at hb2
 injection hb2 with hb2
 injection hb2 with _ ht2
 exact ht ht2.symm
theorem aK.far {w0 W : World} {g : Nat} {f0 : List Int} {f1 : Int} {p : Addr} (h : aK w0 W g f0 f1) (hne : g ≠ p.block) (u : Value) : aK w0 (W.setCell p u) g f0 f1 := by
 obtain ⟨A0, c0, hb, hg, hr0⟩ := h
 exact ⟨A0, c0, oW hb hne u, hg, hr0⟩
theorem D6 {W : World} {g : Nat} {A0 : Option Addr} {c0 : Nat} {f0 : List Int} {f1 : Int} (h : W.heap[g]? = some (.cells #[.slice A0 f0.length c0, .int .i64 f1] 109 (0, 0))) : W.cell? ⟨g, 0, none⟩ = some (.slice A0 f0.length c0) := (aA h 0).trans rfl
theorem D7 {W : World} {g : Nat} {A0 : Option Addr} {c0 : Nat} {f0 : List Int} {f1 : Int} (h : W.heap[g]? = some (.cells #[.slice A0 f0.length c0, .int .i64 f1] 109 (0, 0))) : W.cell? ⟨g, 1, none⟩ = some (.int .i64 f1) := (aA h 1).trans rfl
theorem aK.asb {w0 W : World} {g : Nat} {f0 : List Int} {f1 : Int} (h : aK w0 W g f0 f1) (x : Int) : aK w0 (W.setCell ⟨g, 1, none⟩ (.int .i64 x)) g f0 x := by
 obtain ⟨A0, c0, hb, hg, hr0⟩ := h
 exact ⟨A0, c0, by simpa using UR hb 1 (.int .i64 x), hg, hr0⟩
theorem aK.new (w0 W : World) (A0 : Option Addr) (c0 : Nat) (f0 : List Int) (f1 : Int) (hB : Below w0.heap.size w0 W) (hr0 : Kd.C (Kd.int .u8) w0 A0 f0.length f0) : aK w0 (W.alloc (.cells #[.slice A0 f0.length c0, .int .i64 f1] 109)) W.heap.size f0 f1 := ⟨A0, c0, by simpa using heap_alloc_new W _, hB.size, hr0⟩
/-! words on the state -/
theorem oZ {p : Prop} (h : p := by repeat (first | (with_reducible first | exact ah.out (by assumption) | apply aK.alloc | apply aK.drewN | apply aK.drew | apply aK.asb | refine aK.far ?_ (ah.out (by assumption)) _) | exact ah.out (by assumption))) : p := h
theorem o7 {p : Prop} (h : p := by repeat (first | (with_reducible first | exact ah.out (by assumption) | apply mO | apply pq | apply iF | refine Ak ?_ (aK.ge (ah.out (by assumption))) | refine Ak ?_ (ah.out (by assumption))) | exact ah.out (by assumption))) : p := h
theorem bS {P : Program} {ops : Array Oper} {o : Oper} {rest : List Oper} {a : Act} {Q : Exit → Act → World → Prop} {w0 w W c1 c2 c3 : World} {g : Nat} {f0 : List Int} {f1 f2 : Int} (_HI : ah (aK w0 c1 g f0 f1)) (_HK : ah (aJ w c2 g none)) (_HB : ah (Below w0.heap.size w0 c3)) (HW : ah (w0.heap.size ≤ w.heap.size)) (N : Nat) (cs : Array Value) (t : TypeId)
  (h : ∀ b w1, ah (w1.heap[b]? = some (.cells cs t (0, 0))) → ah (w.heap.size ≤ b) → ah (w0.heap.size ≤ b) → ah (g ≠ b) → ah (b ≠ g) → b = W.heap.size → Below W.heap.size W w1 → ah (aK w0 w1 g f0 f2) → ah (aJ w w1 g none) → ah (Below w0.heap.size w0 w1) → wpList P ops Q rest (a.put o.dst (.pointer (some ⟨b, 0, none⟩))) w1)
  (hd : o.dst = some N := by with_reducible rfl) (hg : o.guard = none := by with_reducible rfl) (hr : (execOp a.eval o).run P W = .ok (.value (.pointer (some ⟨W.heap.size, 0, none⟩))) (W.alloc (.cells cs t (0, 0))) := by first | (go_simp; done) | (go_simp; rfl)) (hI : aK w0 W g f0 f2 := by exact oZ) (hK : aJ w W g none := by exact kk) (hB : Below w0.heap.size w0 W := by exact o7) : wpList P ops Q (o :: rest) a W :=
 bE N cs t (fun b hb w1 h1 hw => h b w1 ⟨h1⟩ ⟨by rw [hb]; exact dI hK⟩ ⟨Nat.le_trans HW.out (by rw [hb]; exact dI hK)⟩ ⟨by rw [hb]; exact Nat.ne_of_lt hI.lt⟩ ⟨by rw [hb]; exact Nat.ne_of_gt hI.lt⟩ hb hw ⟨hI.below hw⟩ ⟨hK.trans (aJ.of_below hw g none) (.inl rfl)⟩ ⟨iC hB hw⟩) hd hg hr
theorem ki {α : Type} {d : Kd α} {e base : Nat} {ok : Nat → Prop} {v : Value} {xs : List α} {w0 a b c : World} {g : Nat} {f0 : List Int} {f1 : Int} (_old : ah (Kd.R d e a base ok v xs)) (hk : aJ b c g none) (hI : aK w0 b g f0 f1 := by exact oZ) (h : Kd.R d e b base ok v xs := by exact rr) (ht : ∀ q, q ∈ e :: d.E → q ≠ 109 := by decide) : ah (Kd.R d e c base ok v xs) := ⟨Kd.bn (Kd.IL (hI.apart h ht) hk (fun _ h => h.2)) (fun _ h => h.1)⟩
theorem kj {α β : Type} {d : Kd α} {e base : Nat} {ok : Nat → Prop} {v : Value} {xs : List α} {w0 a b c : World} {g : Nat} {f0 : List Int} {f1 : Int} {d' : Kd β} {e' : Nat} {ok' : Nat → Prop} {v' : Value} {ys : List β} (_old : ah (Kd.R d e a base ok v xs)) (hk : aJ b c g none) (ho : Kd.R d' e' c b.heap.size ok' v' ys) (hI : aK w0 b g f0 f1 := by exact oZ) (h : Kd.R d e b base ok v xs := by exact rr) (ht : ∀ q, q ∈ e :: d.E → q ≠ 109 := by decide) : ah (Kd.R d e c base (fun k => ok k ∧ some k ≠ v'.ownBlock) v xs) := ⟨Kd.bn (Kd.tV (Kd.UU (hI.apart h ht) hk) (Kd.fO ho)) (fun _ h => h.1)⟩
def tY.f (l0 : List Int) : Option (List Int × Int) := if (l0.length : Int) > 2000 then (if 2000 ≤ (l0.length : Int) then (some (l0.take 2000, 0)) else (none)) else (some (l0, 0))
theorem tY.calls {A0 : Option Addr} {c0 : Nat} {l0 r1 : List Int} {r2 : Int} {w : World} (w0 : World) (hB : Below w0.heap.size w0 w) (hr0 : Kd.C (Kd.int .u8) w0 A0 l0.length l0) (hc0 : l0.length ≤ c0) (h : tY.f l0 = some (r1, r2)) :
  Calls Tryz.prog 55 #[.slice A0 l0.length c0] w fun e w' => ∃ g_ : Nat, e = .returned (.pointer (some ⟨g_, 0, none⟩)) ∧ aK w0 w' g_ r1 r2 ∧ Below w0.heap.size w0 w' ∧ Below w.heap.size w w' := by
 have aCz := Tryz.underlying109
 have HR0 := ak hr0
 have yu := ak hc0
 clear hr0 hc0
 have HBW := ak (Below.refl w.heap.size w)
 have HW0 := ak hB.size
 have HB := ak hB
 clear hB
 unfold tY.f at h; have H := h
 clear h
 replace H := sp H
 rcases H with ⟨c2, H⟩ | ⟨c2, H⟩
 ·
  have nT : decide (2000 < (l0.length : Int)) = true := decide_eq_true c2
  have uF : decide (2000 < l0.length) = true := decide_eq_true (by omega)
  clear c2
  replace H := Ac H; obtain ⟨iO, Au, H⟩ := H
  obtain ⟨rfl, rfl⟩ := s2 H
  obtain ⟨i04, asc, _, ase, _⟩ := info_parts info5
  obtain ⟨aCA, hA4, hC4⟩ := RS (P := Tryz.prog) (Value.int .u8) 0 22 5 .i64 Tryz.underlying22 asc ase A0 c0 l0 2000 (by omega) (of_decide_eq_true (by assumption)) yu.out
  have asf := ak (Kd.IQ (h1 := fun _ => rfl) (hA4 _ (Kd.D8 HR0.out)))
  have aCB := ak hC4
  clear hA4 hC4 asc ase
  go_enter Tryz.func55, Tryz.ntmps55
  go_wp2_with (refine bE 10 #[.slice A0 (l0.take 2000).length c0, .int .i64 0] 109 ?_; intro aeg hg w5 hbox hb; have asg := ak (hbox); have aCC := ge_ HBW hg; have ash := ak ((Nat.le_trans HW0.out (by rw [hg]; exact (aj (ul HBW.out)) : w.heap.size ≤ aeg) : w0.heap.size ≤ aeg)); replace HBW := ak (iC HBW.out hb); replace HB := bs HB hb; clear hb hbox hg)
  go_ret
  exact ⟨_, rfl, (show aK w0 _ aeg (l0.take 2000) 0 from ⟨_, _, ub asg.out, ash.out, asf.out⟩), o7, bh HBW.out⟩
 ·
  have nT : decide (2000 < (l0.length : Int)) = false := decide_eq_false c2
  have uF : decide (2000 < l0.length) = false := decide_eq_false (by omega)
  clear c2
  obtain ⟨rfl, rfl⟩ := s2 H
  go_enter Tryz.func55, Tryz.ntmps55
  go_wp2_with (refine bE 10 #[.slice A0 l0.length c0, .int .i64 0] 109 ?_; intro aeh hg w6 hbox hb; have asi := ak (hbox); have aCD := ge_ HBW hg; have asj := ak ((Nat.le_trans HW0.out (by rw [hg]; exact (aj (ul HBW.out)) : w.heap.size ≤ aeh) : w0.heap.size ≤ aeh)); replace HBW := ak (iC HBW.out hb); replace HB := bs HB hb; clear hb hbox hg)
  go_ret
  exact ⟨_, rfl, (show aK w0 _ aeh l0 0 from ⟨_, _, ub asi.out, asj.out, HR0.out⟩), o7, bh HBW.out⟩
def cZ.j0 : Nat → Int → Bool → List Int → Int → Option (Int × Int)
 | 0, _, _, _, _ => none
 | k + 1, x1, x24, x1000, oQ => if x24 = true then (some (0, oQ)) else (if (wrap64 (oQ - 1)) < (x1000.length : Int) then (if 0 ≤ (wrap64 (oQ - 1)) then (if x1 = 0 then (none) else (some (Int.tmod (wrap64 (rd x1000 (wrap64 (oQ - 1)))) x1, oQ))) else (none)) else (if (x1000.length : Int) = 0 then (none) else (if 0 ≤ (Int.tmod (wrap64 (oQ - 1)) (x1000.length : Int)) then (if (Int.tmod (wrap64 (oQ - 1)) (x1000.length : Int)) < (x1000.length : Int) then (if 0 ≤ (Int.tmod (wrap64 ((wrap64 ((wrap64 (oQ - 1)) * 7)) + 3)) (x1000.length : Int)) then (if (Int.tmod (wrap64 ((wrap64 ((wrap64 (oQ - 1)) * 7)) + 3)) (x1000.length : Int)) < (x1000.length : Int) then (if x1 = 0 then (none) else (some (Int.tmod (Go.bits .xor .i64 (wrap64 ((wrap64 ((wrap64 ((wrap64 ((wrap64 (rd x1000 (Int.tmod (wrap64 (oQ - 1)) (x1000.length : Int)))) * 131)) + (wrap64 ((wrap64 (rd x1000 (Int.tmod (wrap64 ((wrap64 ((wrap64 (oQ - 1)) * 7)) + 3)) (x1000.length : Int)))) * 1117)))) + (wrap64 ((wrap64 (oQ - 1)) * 29)))) + (wrap64 ((wrap64 (Int.tdiv (wrap64 (oQ - 1)) (x1000.length : Int))) * 53)))) (wrap64 (Int.tdiv (wrap64 ((wrap64 ((wrap64 ((wrap64 ((wrap64 (rd x1000 (Int.tmod (wrap64 (oQ - 1)) (x1000.length : Int)))) * 131)) + (wrap64 ((wrap64 (rd x1000 (Int.tmod (wrap64 ((wrap64 ((wrap64 (oQ - 1)) * 7)) + 3)) (x1000.length : Int)))) * 1117)))) + (wrap64 ((wrap64 (oQ - 1)) * 29)))) + (wrap64 ((wrap64 (Int.tdiv (wrap64 (oQ - 1)) (x1000.length : Int))) * 53)))) 64))) x1, oQ))) else (none)) else (none)) else (none)) else (none))))
def cZ.f (k : Nat) (eY : List Int) (kE : Int) (a1 : Int) : Option (Int × Int) := if a1 < 1 then (cZ.j0 k a1 true eY (wrap64 (kE + 1))) else (cZ.j0 k a1 ((eY.length : Int) == 0) eY (wrap64 (kE + 1)))
theorem cZ.calls {k g : Nat} {eY : List Int} {kE a1 r1 r2 : Int} {w : World} (w0 : World) (hI : aK w0 w g eY kE) (hB : Below w0.heap.size w0 w) (h : cZ.f k eY kE a1 = some (r1, r2)) :
  Calls Tryz.prog 57 #[.pointer (some ⟨g, 0, none⟩), .int .i64 a1] w fun e w' => e = .returned (.int .i64 r1) ∧ aK w0 w' g eY r2 ∧ Below w0.heap.size w0 w' ∧ aJ w w' g none := by
 have HI0 := ak hI
 have HK := ak (aJ.refl w g none)
 have HL := ak hB.size
 clear hI
 have HW0 := ak hB.size
 have HB := ak hB
 clear hB
 unfold cZ.f at h; have H := h
 clear h
 have P9 := ak H
 clear H
 obtain ⟨azj, azk, ahR, azl, azm⟩ := HI0.out
 have aei := D6 ahR
 have anM := D7 ahR
 have anN := gX ahR 1
 clear ahR azl
 go_enter Tryz.func57, Tryz.ntmps57
 go_upto_region 2 with (fail)
 repeat (go_quiet (fail); go_upto_region 2 with (fail))
 go_cut [24] (fun v24 wc => ∃ (kq : Nat) (lT : Bool), v24 = .bool lT ∧ ah (cZ.j0 kq a1 lT eY (wrap64 (kE + 1)) = some (r1, r2)) ∧ ah (kq ≤ k) ∧ ah (aK w0 wc g eY (wrap64 (kE + 1))) ∧ ah (aJ w wc g none) ∧ ah (Below w0.heap.size w0 wc))
 case first =>
  have H := P9.out
  clear P9
  replace H := sd H
  rcases H with ⟨nO, H⟩ | ⟨nO, H⟩
  ·
   (first | rw [nO] | (simp only [dP, fG]; rw [nO]) | skip)
   have H' := ak H; clear H
   go_wp2
   repeat (go_quiet (fail); try go_wp2)
   go_meet
   case rel => exact ⟨_, _, rs, H', ⟨Jq⟩, ⟨oZ⟩, ⟨kh HK.out⟩, ⟨o7⟩⟩
  ·
   (first | rw [nO] | (simp only [dP, fG]; rw [nO]) | skip)
   have H' := ak H; clear H
   obtain ⟨azn, azo, ahS, azp, azq⟩ := HI0.out
   have azr := D6 ahS
   have azs := D7 ahS
   have azt := gX ahS 1
   clear ahS azp
   go_wp2
   repeat (go_quiet (fail); try go_wp2)
   go_meet
   case rel => exact ⟨_, _, rs, H', ⟨Jq⟩, ⟨oZ⟩, ⟨kh HK.out⟩, ⟨o7⟩⟩
 case rest =>
  clear P9
  try clear aei
  try clear anM
  try clear anN
  obtain ⟨kq, lT, rfl, HA, HJ2, HI0, HK, HB⟩ := hcut
  cases kq with
  | zero => exact zz HA.out
  | succ ZQ =>
   obtain ⟨H⟩ := HA
   simp only [cZ.j0] at H
   replace H := sb H
   rcases H with ⟨rfl, H⟩ | ⟨rfl, H⟩
   ·
    obtain ⟨rfl, rfl⟩ := s2 H
    go_wp2
    repeat (go_quiet (fail); try go_wp2)
    go_ret
    exact ⟨er, oZ, o7, kh HK.out⟩
   ·
    replace H := sp H
    rcases H with ⟨c8, H⟩ | ⟨c8, H⟩
    ·
     have tu := decide_eq_true c8
     (try (have Dl : decide (((wrap64 (kE + 1)) - 1) < (eY.length : Int)) = true := decide_eq_true (by have h_ := c8; unfold wrap64 at h_; omega)))
     clear c8
     obtain ⟨PN, IG⟩ : ∃ j_ : Int, (wrap64 ((wrap64 (kE + 1)) - 1)) = j_ := ⟨_, rfl⟩
     replace H : (if 0 ≤ (PN) then (if a1 = 0 then (none) else (some (Int.tmod (wrap64 (rd eY (PN))) a1, (wrap64 (kE + 1))))) else (none)) = some (r1, r2) := by first | (rw [IG] at H; exact H) | (simp only [IG] at H ⊢; exact H)
     (try rw [IG] at tu)
     have ajn : (IntKind.i64.wrap ((wrap64 (kE + 1)) - 1)) = PN := (dP _).trans IG
     replace H := oL H; obtain ⟨oC, H⟩ := H; replace H := sp H
     rcases H with ⟨c11, H⟩ | ⟨c11, H⟩
     ·
      exact absurd H (by simp)
     ·
      have uH := beq_eq_false_iff_ne.mpr c11
      have EC := bne_iff_ne.mpr c11
      obtain ⟨rfl, rfl⟩ := s2 H
      obtain ⟨axf, axg, aaG, asl, ahT⟩ := HI0.out
      have ahU := D6 aaG
      have axh := D7 aaG
      have axi := gX aaG 1
      clear aaG asl
      have anO := zi (PN)
      have anP := zj (PN) eY.length
      obtain ⟨aCE, azu, aaH⟩ := Kd.UW ahT (PN) anO anP
      cases azu
      replace aaH := sG HB.out aaH
      replace anO := eq_true anO
      replace anP := eq_true anP
      go_wp2
      repeat (go_quiet (fail); try go_wp2)
      go_ret
      exact ⟨by first | rfl | (simp [wS, wU] <;> rfl) | (simp only [← IG]; first | rfl | (simp [wS, wU] <;> rfl)) | (simp [*, wS, wU] <;> rfl), oZ, o7, kh HK.out⟩
    ·
     have tu := decide_eq_false c8
     (try (have Dl : decide (((wrap64 (kE + 1)) - 1) < (eY.length : Int)) = false := decide_eq_false (by have h_ := c8; unfold wrap64 at h_; omega)))
     clear c8
     replace H := sp H
     rcases H with ⟨c13, H⟩ | ⟨c13, H⟩
     ·
      exact absurd H (by simp)
     ·
      have wo := beq_eq_false_iff_ne.mpr c13
      have zU := bne_iff_ne.mpr c13
      have ajp : ¬ (eY = []) := fun h_ => c13 (by rw [h_]; rfl)
      obtain ⟨JF, JG⟩ : ∃ j_ : Int, (Int.tmod (wrap64 ((wrap64 (kE + 1)) - 1)) (eY.length : Int)) = j_ := ⟨_, rfl⟩
      replace H : (if 0 ≤ (JF) then (if (JF) < (eY.length : Int) then (if 0 ≤ (Int.tmod (wrap64 ((wrap64 ((wrap64 ((wrap64 (kE + 1)) - 1)) * 7)) + 3)) (eY.length : Int)) then (if (Int.tmod (wrap64 ((wrap64 ((wrap64 ((wrap64 (kE + 1)) - 1)) * 7)) + 3)) (eY.length : Int)) < (eY.length : Int) then (if a1 = 0 then (none) else (some (Int.tmod (Go.bits .xor .i64 (wrap64 ((wrap64 ((wrap64 ((wrap64 ((wrap64 (rd eY (JF))) * 131)) + (wrap64 ((wrap64 (rd eY (Int.tmod (wrap64 ((wrap64 ((wrap64 ((wrap64 (kE + 1)) - 1)) * 7)) + 3)) (eY.length : Int)))) * 1117)))) + (wrap64 ((wrap64 ((wrap64 (kE + 1)) - 1)) * 29)))) + (wrap64 ((wrap64 (Int.tdiv (wrap64 ((wrap64 (kE + 1)) - 1)) (eY.length : Int))) * 53)))) (wrap64 (Int.tdiv (wrap64 ((wrap64 ((wrap64 ((wrap64 ((wrap64 (rd eY (JF))) * 131)) + (wrap64 ((wrap64 (rd eY (Int.tmod (wrap64 ((wrap64 ((wrap64 ((wrap64 (kE + 1)) - 1)) * 7)) + 3)) (eY.length : Int)))) * 1117)))) + (wrap64 ((wrap64 ((wrap64 (kE + 1)) - 1)) * 29)))) + (wrap64 ((wrap64 (Int.tdiv (wrap64 ((wrap64 (kE + 1)) - 1)) (eY.length : Int))) * 53)))) 64))) a1, (wrap64 (kE + 1))))) else (none)) else (none)) else (none)) else (none)) = some (r1, r2) := by first | (rw [JG] at H; exact H) | (simp only [JG] at H ⊢; exact H)
      replace H := oL H; obtain ⟨wu, H⟩ := H; replace H := oL H; obtain ⟨zW, H⟩ := H
      obtain ⟨Yq, aej⟩ : ∃ j_ : Int, (Int.tmod (wrap64 ((wrap64 ((wrap64 ((wrap64 (kE + 1)) - 1)) * 7)) + 3)) (eY.length : Int)) = j_ := ⟨_, rfl⟩
      replace H : (if 0 ≤ (Yq) then (if (Yq) < (eY.length : Int) then (if a1 = 0 then (none) else (some (Int.tmod (Go.bits .xor .i64 (wrap64 ((wrap64 ((wrap64 ((wrap64 ((wrap64 (rd eY (JF))) * 131)) + (wrap64 ((wrap64 (rd eY (Yq))) * 1117)))) + (wrap64 ((wrap64 ((wrap64 (kE + 1)) - 1)) * 29)))) + (wrap64 ((wrap64 (Int.tdiv (wrap64 ((wrap64 (kE + 1)) - 1)) (eY.length : Int))) * 53)))) (wrap64 (Int.tdiv (wrap64 ((wrap64 ((wrap64 ((wrap64 ((wrap64 (rd eY (JF))) * 131)) + (wrap64 ((wrap64 (rd eY (Yq))) * 1117)))) + (wrap64 ((wrap64 ((wrap64 (kE + 1)) - 1)) * 29)))) + (wrap64 ((wrap64 (Int.tdiv (wrap64 ((wrap64 (kE + 1)) - 1)) (eY.length : Int))) * 53)))) 64))) a1, (wrap64 (kE + 1))))) else (none)) else (none)) = some (r1, r2) := by first | (rw [aej] at H; exact H) | (simp only [aej] at H ⊢; exact H)
      replace H := oL H; obtain ⟨zV, H⟩ := H; replace H := oL H; obtain ⟨Aw, H⟩ := H; replace H := sp H
      rcases H with ⟨c20, H⟩ | ⟨c20, H⟩
      ·
       exact absurd H (by simp)
      ·
       have SH := beq_eq_false_iff_ne.mpr c20
       have V7 := bne_iff_ne.mpr c20
       obtain ⟨rfl, rfl⟩ := s2 H
       obtain ⟨axj, axk, aaI, asn, aaJ⟩ := HI0.out
       have axl := D6 aaI
       have axn := D7 aaI
       have axo := gX aaI 1
       clear aaI asn
       have anQ := zi (JF)
       have anR := zj (JF) eY.length
       obtain ⟨aso, azv, aaK⟩ := Kd.UW aaJ (JF) anQ anR
       cases azv
       replace aaK := sG HB.out aaK
       replace anQ := eq_true anQ
       replace anR := eq_true anR
       have anS := zi (Yq)
       have anT := zj (Yq) eY.length
       obtain ⟨asq, azw, aaL⟩ := Kd.UW aaJ (Yq) anS anT
       obtain rfl : aso = asq := (by injection azw)
       replace aaL := sG HB.out aaL
       replace anS := eq_true anS
       replace anT := eq_true anT
       go_wp2
       repeat (go_quiet (fail); try go_wp2)
       go_ret
       exact ⟨by first | rfl | (simp [wS, wU] <;> rfl) | (simp only [← JG, ← aej]; first | rfl | (simp [wS, wU] <;> rfl)) | (simp [*, wS, wU] <;> rfl), oZ, o7, kh HK.out⟩
def fE.f (k : Nat) (eY : List Int) (kE : Int) (l1 : List ByteArray) : Option (ByteArray × Int) := (cZ.f k eY kE (l1.length : Int)).bind fun aaM => (if 0 ≤ aaM.1 then (if aaM.1 < (l1.length : Int) then (some (o9 ByteArray.empty l1 aaM.1, aaM.2)) else (none)) else (none))
theorem fE.calls {k g c1 : Nat} {eY : List Int} {kE r2 : Int} {A1 : Option Addr} {l1 : List ByteArray} {r1 : ByteArray} {w : World} (w0 : World) (hI : aK w0 w g eY kE) (hB : Below w0.heap.size w0 w) (hr1 : Kd.C Kd.string w A1 l1.length l1) (hc1 : l1.length ≤ c1) (hf1 : ∀ ad, A1 = some ad → 0 < l1.length → ad.block ≠ g) (h : fE.f k eY kE l1 = some (r1, r2)) :
  Calls Tryz.prog 58 #[.pointer (some ⟨g, 0, none⟩), .slice A1 l1.length c1] w fun e w' => e = .returned (.string r1) ∧ aK w0 w' g eY r2 ∧ Below w0.heap.size w0 w' ∧ aJ w w' g none := by
 have HR1 := ak hr1
 have HC1 := ak hc1
 clear hr1 hc1
 have HI0 := ak hI
 have HK := ak (aJ.refl w g none)
 have HL := ak hB.size
 clear hI
 have HW0 := ak hB.size
 have HB := ak hB
 clear hB
 unfold fE.f at h; have H := h
 clear h
 replace H := bd H
 obtain ⟨⟨anU, aGc⟩, A3, H⟩ := H
 (try dsimp only at H)
 replace H := oL H; obtain ⟨su, H⟩ := H; replace H := oL H; obtain ⟨nO, H⟩ := H
 obtain ⟨rfl, rfl⟩ := s2 H
 go_enter Tryz.func58, Tryz.ntmps58
 go_wp2_with (refine gL 57 9 Tryz.func57 #[.pointer (some ⟨g, 0, none⟩), .int .i64 (l1.length : Int)] ?_; (with_reducible refine (cZ.calls w0 ?fU ?iW A3.out).mono ?_); (case fU => exact oZ); (case iW => exact o7); rintro e w6 ⟨rfl, hi, hb, hk⟩; refine ⟨_, rfl, ?_⟩; replace HK := kt HK hk; replace HB := ak (hb); replace HI0 := ak (hi); clear hb; (try clear hk); (try clear hi); have anV : 0 ≤ (anU : Int) := of_decide_eq_true (by assumption); have anW : anU < (l1.length : Int) := of_decide_eq_true (by assumption); obtain ⟨asr, azx, aaN⟩ := Kd.jZ HR1.out anU anV anW; cases azx; replace aaN := GV HK.out aaN (by first | (rw [add_block]; exact hf1 _ rfl (by omega)) | exact hf1 _ rfl (by omega) | exact hf1 asr rfl (by omega)); replace anV := eq_true anV; replace anW := eq_true anW)
 go_ret
 exact ⟨er, oZ, o7, kh HK.out⟩
def ku.f (k : Nat) (eY : List Int) (kE : Int) (l1 : List Int) : Option (Int × Int) := (cZ.f k eY kE (l1.length : Int)).bind fun aaO => (if 0 ≤ aaO.1 then (if aaO.1 < (l1.length : Int) then (some (rd l1 aaO.1, aaO.2)) else (none)) else (none))
theorem ku.calls {k g c1 : Nat} {eY l1 : List Int} {kE r1 r2 : Int} {A1 : Option Addr} {w : World} (w0 : World) (hI : aK w0 w g eY kE) (hB : Below w0.heap.size w0 w) (hr1 : Kd.C (Kd.int .i64) w A1 l1.length l1) (hc1 : l1.length ≤ c1) (hf1 : ∀ ad, A1 = some ad → 0 < l1.length → ad.block ≠ g) (h : ku.f k eY kE l1 = some (r1, r2)) :
  Calls Tryz.prog 97 #[.pointer (some ⟨g, 0, none⟩), .slice A1 l1.length c1] w fun e w' => e = .returned (.int .i64 r1) ∧ aK w0 w' g eY r2 ∧ Below w0.heap.size w0 w' ∧ aJ w w' g none := by
 have HR1 := ak hr1
 have HC1 := ak hc1
 clear hr1 hc1
 have HI0 := ak hI
 have HK := ak (aJ.refl w g none)
 have HL := ak hB.size
 clear hI
 have HW0 := ak hB.size
 have HB := ak hB
 clear hB
 unfold ku.f at h; have H := h
 clear h
 replace H := bd H
 obtain ⟨⟨anX, aGd⟩, A3, H⟩ := H
 (try dsimp only at H)
 replace H := oL H; obtain ⟨su, H⟩ := H; replace H := oL H; obtain ⟨nO, H⟩ := H
 obtain ⟨rfl, rfl⟩ := s2 H
 go_enter Tryz.func97, Tryz.ntmps97
 go_wp2_with (refine gL 57 9 Tryz.func57 #[.pointer (some ⟨g, 0, none⟩), .int .i64 (l1.length : Int)] ?_; (with_reducible refine (cZ.calls w0 ?fU ?iW A3.out).mono ?_); (case fU => exact oZ); (case iW => exact o7); rintro e w6 ⟨rfl, hi, hb, hk⟩; refine ⟨_, rfl, ?_⟩; replace HK := kt HK hk; replace HB := ak (hb); replace HI0 := ak (hi); clear hb; (try clear hk); (try clear hi); have anY : 0 ≤ (anX : Int) := of_decide_eq_true (by assumption); have anZ : anX < (l1.length : Int) := of_decide_eq_true (by assumption); obtain ⟨asu, azy, aaP⟩ := Kd.UW HR1.out anX anY anZ; cases azy; replace aaP := GV HK.out aaP (by first | (rw [add_block]; exact hf1 _ rfl (by omega)) | exact hf1 _ rfl (by omega) | exact hf1 asu rfl (by omega)); replace anY := eq_true anY; replace anZ := eq_true anZ)
 go_ret
 exact ⟨er, oZ, o7, kh HK.out⟩
def gJ.l0 : Nat → ByteArray → Int → Option (Bool)
 | 0, _, _ => none
 | k + 1, x0, x3 => if (wrap64 (x3 + 1)) < (x0.size : Int) then (if 0 ≤ x3 then (if x3 < (x0.size : Int) then (if (bt x0 x3) = 61 then (if 0 ≤ (wrap64 (x3 + 1)) then (if (bt x0 (wrap64 (x3 + 1))) = 63 then (some true) else (gJ.l0 k x0 (wrap64 (x3 + 1)))) else (none)) else (gJ.l0 k x0 (wrap64 (x3 + 1)))) else (none)) else (none)) else ((aQ.f k x0).bind fun asv => (if asv = true then ((bP.f k x0).bind fun asw => (if asw.toList = x0.toList then (some (decide ((x0.size : Int) > 120))) else (some true))) else (some true)))
def gJ.f (k : Nat) (a0 : ByteArray) : Option (Bool) := gJ.l0 k a0 0
theorem gJ.calls {k : Nat} {a0 : ByteArray} {r : Bool} {w : World} (h : gJ.f k a0 = some r) :
  Calls Tryz.prog 207 #[.string a0] w fun e w' => e = .returned (.bool r) ∧ dS w w' := by
 unfold gJ.f at h; have H := h
 clear h
 have H' := ak H; clear H
 go_enter Tryz.func207, Tryz.ntmps207
 go_wp2
 go_loopg [3] k (fun kq v3 w' => ∃ (dM : Int), v3 = .int .i64 dM ∧ ah (gJ.l0 kq a0 dM = some r) ∧ ah (kq ≤ k) ∧ dS w w')
 case atStart => exact ⟨_, rs, H', ⟨Nat.le_refl _⟩, dn⟩
 case round =>
  clear H'
  obtain ⟨dM, rfl, HA, xG, ⟨m1, rfl⟩⟩ := hrel
  cases gk with
  | zero => exact zz HA.out
  | succ k1 =>
   obtain ⟨H⟩ := HA
   simp only [gJ.l0] at H
   replace H := sp H
   rcases H with ⟨c2, H⟩ | ⟨c2, H⟩
   ·
    have nT := decide_eq_true c2
    (try (have uF : decide ((dM + 1) < (a0.size : Int)) = true := decide_eq_true (by have h_ := c2; unfold wrap64 at h_; omega)))
    clear c2
    replace H := oL H; obtain ⟨iO, H⟩ := H; replace H := oL H; obtain ⟨su, H⟩ := H; replace H := sq H
    rcases H with ⟨oz, xH, H⟩ | ⟨c6, oz, xH, H⟩
    ·
     obtain ⟨ji7, Oz⟩ : ∃ j_ : Int, (wrap64 (dM + 1)) = j_ := ⟨_, rfl⟩
     replace H : (if 0 ≤ (ji7) then (if (bt a0 (ji7)) = 63 then (some true) else (gJ.l0 k1 a0 ji7)) else (none)) = some r := by first | (rw [Oz] at H; exact H) | (simp only [Oz] at H ⊢; exact H)
     (try rw [Oz] at nT)
     have asx : (IntKind.i64.wrap (dM + 1)) = ji7 := (dP _).trans Oz
     replace H := oL H; obtain ⟨tu, H⟩ := H; replace H := sq H
     rcases H with ⟨oC, sS, H⟩ | ⟨c10, oC, sS, H⟩
     ·
      obtain rfl := s1 H
      obtain ⟨p5, q5, hx5⟩ := bx a0 dM
      obtain ⟨p9, q9, Zv⟩ := bx a0 (ji7)
      go_wp2
      go_ret
      exact ⟨by first | rfl | (simp; done) | (simp only [← Oz] <;> (first | rfl | simp)) | (simp [*]; done), dn⟩
     ·
      have H' := ak H; clear H
      obtain ⟨p5, q5, hx5⟩ := bx a0 dM
      obtain ⟨p9, q9, Zv⟩ := bx a0 (ji7)
      go_wp2
      go_roundg k1
      case measure => exact kl
      case rel => exact ⟨_, (by first | rfl | (simp; done) | (simp only [← Oz] <;> (first | rfl | simp)) | (simp [*]; done)), H', ⟨kl⟩, dn⟩
    ·
     have H' := ak H; clear H
     obtain ⟨p5, q5, hx5⟩ := bx a0 dM
     go_wp2
     go_roundg k1
     case measure => exact kl
     case rel => exact ⟨_, rs, H', ⟨kl⟩, dn⟩
   ·
    have nT := decide_eq_false c2
    (try (have uF : decide ((dM + 1) < (a0.size : Int)) = false := decide_eq_false (by have h_ := c2; unfold wrap64 at h_; omega)))
    clear c2
    replace H := bd H; obtain ⟨asv, Zn, H⟩ := H; replace H := sb H
    rcases H with ⟨rfl, H⟩ | ⟨rfl, H⟩
    ·
     replace H := bd H; obtain ⟨asw, A13, H⟩ := H; replace H := sq H
     rcases H with ⟨qC, wI, H⟩ | ⟨c14, qC, wI, H⟩
     ·
      obtain rfl := s1 H
      go_wp2_with (first | (refine gA Tryz.func159 (aQ.calls Zn.out) ?_; intro nd) | (go_at_call 179; refine mA (bP.calls A13.out) ?_; intro nd))
      go_ret
      exact ⟨rs, dn⟩
     ·
      obtain rfl := s1 H
      go_wp2_with (first | (refine gA Tryz.func159 (aQ.calls Zn.out) ?_; intro nd) | (go_at_call 179; refine mA (bP.calls A13.out) ?_; intro nd))
      go_ret
      exact ⟨rs, dn⟩
    ·
     obtain rfl := s1 H
     go_wp2_with (refine gA Tryz.func159 (aQ.calls Zn.out) ?_; intro nd)
     go_ret
     exact ⟨rs, dn⟩
def lH.f (a0 : Int) : Option (ByteArray) := if 0 ≤ (a0 / 16) then (if (a0 / 16) ≤ (((a0 / 16) + 1) % 256) then (if (((a0 / 16) + 1) % 256) ≤ 16 then (if 1 + ((⟨#[48, 49, 50, 51, 52, 53, 54, 55, 56, 57, 65, 66, 67, 68, 69, 70]⟩ : ByteArray).extract ((a0 / 16) : Int).toNat ((((a0 / 16) + 1) % 256) : Int).toNat).size ≤ 9223372036854775807 then (if 0 ≤ (Go.bits .and .u8 a0 15) then (if (Go.bits .and .u8 a0 15) ≤ (((Go.bits .and .u8 a0 15) + 1) % 256) then (if (((Go.bits .and .u8 a0 15) + 1) % 256) ≤ 16 then (if ((⟨#[61]⟩ : ByteArray) ++ ((⟨#[48, 49, 50, 51, 52, 53, 54, 55, 56, 57, 65, 66, 67, 68, 69, 70]⟩ : ByteArray).extract ((a0 / 16) : Int).toNat ((((a0 / 16) + 1) % 256) : Int).toNat)).size + ((⟨#[48, 49, 50, 51, 52, 53, 54, 55, 56, 57, 65, 66, 67, 68, 69, 70]⟩ : ByteArray).extract ((Go.bits .and .u8 a0 15) : Int).toNat ((((Go.bits .and .u8 a0 15) + 1) % 256) : Int).toNat).size ≤ 9223372036854775807 then (some (((⟨#[61]⟩ : ByteArray) ++ ((⟨#[48, 49, 50, 51, 52, 53, 54, 55, 56, 57, 65, 66, 67, 68, 69, 70]⟩ : ByteArray).extract ((a0 / 16) : Int).toNat ((((a0 / 16) + 1) % 256) : Int).toNat)) ++ ((⟨#[48, 49, 50, 51, 52, 53, 54, 55, 56, 57, 65, 66, 67, 68, 69, 70]⟩ : ByteArray).extract ((Go.bits .and .u8 a0 15) : Int).toNat ((((Go.bits .and .u8 a0 15) + 1) % 256) : Int).toNat))) else (none)) else (none)) else (none)) else (none)) else (none)) else (none)) else (none)) else (none)
theorem lH.calls {a0 : Int} {r : ByteArray} {w : World} (h : lH.f a0 = some r) :
  Calls Tryz.prog 221 #[.int .u8 a0] w fun e w' => e = .returned (.string r) ∧ dS w w' := by
 unfold lH.f at h; have H := h
 clear h
 obtain ⟨RG, an0⟩ : ∃ j_ : Int, (a0 / 16) = j_ := ⟨_, rfl⟩
 replace H : (if 0 ≤ (RG) then (if (RG) ≤ (((RG) + 1) % 256) then (if (((RG) + 1) % 256) ≤ 16 then (if 1 + ((⟨#[48, 49, 50, 51, 52, 53, 54, 55, 56, 57, 65, 66, 67, 68, 69, 70]⟩ : ByteArray).extract ((RG) : Int).toNat ((((RG) + 1) % 256) : Int).toNat).size ≤ 9223372036854775807 then (if 0 ≤ (Go.bits .and .u8 a0 15) then (if (Go.bits .and .u8 a0 15) ≤ (((Go.bits .and .u8 a0 15) + 1) % 256) then (if (((Go.bits .and .u8 a0 15) + 1) % 256) ≤ 16 then (if ((⟨#[61]⟩ : ByteArray) ++ ((⟨#[48, 49, 50, 51, 52, 53, 54, 55, 56, 57, 65, 66, 67, 68, 69, 70]⟩ : ByteArray).extract ((RG) : Int).toNat ((((RG) + 1) % 256) : Int).toNat)).size + ((⟨#[48, 49, 50, 51, 52, 53, 54, 55, 56, 57, 65, 66, 67, 68, 69, 70]⟩ : ByteArray).extract ((Go.bits .and .u8 a0 15) : Int).toNat ((((Go.bits .and .u8 a0 15) + 1) % 256) : Int).toNat).size ≤ 9223372036854775807 then (some (((⟨#[61]⟩ : ByteArray) ++ ((⟨#[48, 49, 50, 51, 52, 53, 54, 55, 56, 57, 65, 66, 67, 68, 69, 70]⟩ : ByteArray).extract ((RG) : Int).toNat ((((RG) + 1) % 256) : Int).toNat)) ++ ((⟨#[48, 49, 50, 51, 52, 53, 54, 55, 56, 57, 65, 66, 67, 68, 69, 70]⟩ : ByteArray).extract ((Go.bits .and .u8 a0 15) : Int).toNat ((((Go.bits .and .u8 a0 15) + 1) % 256) : Int).toNat))) else (none)) else (none)) else (none)) else (none)) else (none)) else (none)) else (none)) else (none)) = some r := by first | (rw [an0] at H; exact H) | (simp only [an0] at H ⊢; exact H)
 replace H := Ac H; obtain ⟨iO, Au, H⟩ := H; replace H := nn H; obtain ⟨c4, H⟩ := H
 have su := eq_true c4
 have XW := decide_eq_true c4
 replace H := nn H; obtain ⟨c5, H⟩ := H
 have nO := eq_true c5
 have JM := decide_eq_true c5
 replace H := nn H; obtain ⟨c6, H⟩ := H
 have oz := eq_true c6
 have xH := decide_eq_true c6
 try have aGe : (9223372036854775807 < 1 + (((⟨#[48, 49, 50, 51, 52, 53, 54, 55, 56, 57, 65, 66, 67, 68, 69, 70]⟩ : ByteArray).extract ((RG) : Int).toNat ((((RG) + 1) % 256) : Int).toNat).size)) = False := by have h_ := c6; simp only [ByteArray.size_append, ByteArray.size_extract] at h_; refine eq_false ?_; simp only [decide_eq_true_eq] at *; omega
 try have ahd : (9223372036854775807 < 1 + ((⟨#[48, 49, 50, 51, 52, 53, 54, 55, 56, 57, 65, 66, 67, 68, 69, 70]⟩ : ByteArray).extract ((RG) : Int).toNat ((((RG) + 1) % 256) : Int).toNat).size) = False := eq_false (Nat.not_lt.2 c6)
 replace H := Ac H; obtain ⟨sD, Mc, H⟩ := H; replace H := nn H; obtain ⟨c8, H⟩ := H
 have tu := eq_true c8
 have Dl := decide_eq_true c8
 replace H := nn H; obtain ⟨c9, H⟩ := H
 have yh := eq_true c9
 have Fz := decide_eq_true c9
 replace H := nn H; obtain ⟨c10, H⟩ := H
 have oC := eq_true c10
 have sS := decide_eq_true c10
 try have aqA : (9223372036854775807 < (⟨#[61]⟩ : ByteArray).size + (((⟨#[48, 49, 50, 51, 52, 53, 54, 55, 56, 57, 65, 66, 67, 68, 69, 70]⟩ : ByteArray).extract ((RG) : Int).toNat ((((RG) + 1) % 256) : Int).toNat).size) + (((⟨#[48, 49, 50, 51, 52, 53, 54, 55, 56, 57, 65, 66, 67, 68, 69, 70]⟩ : ByteArray).extract ((Go.bits .and .u8 a0 15) : Int).toNat ((((Go.bits .and .u8 a0 15) + 1) % 256) : Int).toNat).size)) = False := by have h_ := c10; simp only [ByteArray.size_append, ByteArray.size_extract] at h_; refine eq_false ?_; simp only [decide_eq_true_eq] at *; omega
 try have ajJ : (9223372036854775807 < 1 + (((⟨#[48, 49, 50, 51, 52, 53, 54, 55, 56, 57, 65, 66, 67, 68, 69, 70]⟩ : ByteArray).extract ((RG) : Int).toNat ((((RG) + 1) % 256) : Int).toNat).size) + (((⟨#[48, 49, 50, 51, 52, 53, 54, 55, 56, 57, 65, 66, 67, 68, 69, 70]⟩ : ByteArray).extract ((Go.bits .and .u8 a0 15) : Int).toNat ((((Go.bits .and .u8 a0 15) + 1) % 256) : Int).toNat).size)) = False := by have h_ := (eq_false (Nat.not_lt.2 c10) : (9223372036854775807 < ((⟨#[61]⟩ : ByteArray) ++ ((⟨#[48, 49, 50, 51, 52, 53, 54, 55, 56, 57, 65, 66, 67, 68, 69, 70]⟩ : ByteArray).extract ((RG) : Int).toNat ((((RG) + 1) % 256) : Int).toNat)).size + ((⟨#[48, 49, 50, 51, 52, 53, 54, 55, 56, 57, 65, 66, 67, 68, 69, 70]⟩ : ByteArray).extract ((Go.bits .and .u8 a0 15) : Int).toNat ((((Go.bits .and .u8 a0 15) + 1) % 256) : Int).toNat).size) = False); simp only [ByteArray.size_append] at h_; exact h_
 try have ZB : (9223372036854775807 < ((⟨#[61]⟩ : ByteArray) ++ ((⟨#[48, 49, 50, 51, 52, 53, 54, 55, 56, 57, 65, 66, 67, 68, 69, 70]⟩ : ByteArray).extract ((RG) : Int).toNat ((((RG) + 1) % 256) : Int).toNat)).size + ((⟨#[48, 49, 50, 51, 52, 53, 54, 55, 56, 57, 65, 66, 67, 68, 69, 70]⟩ : ByteArray).extract ((Go.bits .and .u8 a0 15) : Int).toNat ((((Go.bits .and .u8 a0 15) + 1) % 256) : Int).toNat).size) = False := eq_false (Nat.not_lt.2 c10)
 obtain rfl := s1 H
 go_enter Tryz.func221, Tryz.ntmps221
 go_wp2
 repeat (go_quiet (fail); try go_wp2)
 go_ret
 exact ⟨by first | rfl | (simp; done) | (simp only [← an0] <;> (first | rfl | simp)) | (simp [*]; done), dn⟩
end Go.Proofs.YtncdadcmghglkaaGreatDoor.PFnKidValid
