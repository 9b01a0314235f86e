/- Printed walks; conditions: those in each statement. -/
import Derived.Test.YtncdadcmghglkaaGreatDoorVFnCountPartsQt
import Derived.Test.YtncdadcmghglkaaGreatDoorVFnCountPartsYt
import Derived.Test.YtncdadcmghglkaaGreatDoorPFnCountPartsx0
import Derived.Test.YtncdadcmghglkaaGreatDoorPFnCountPartsx10
import Derived.Test.YtncdadcmghglkaaGreatDoorPFnCountPartsx11
-- short
-- dense
-- sq
-- sq2
namespace Go.Proofs.YtncdadcmghglkaaGreatDoor.PFnCountParts
open Go.RowKit Go.Proofs.YtncdadcmghglkaaGreatDoor.X Go.Proofs.YtncdadcmghglkaaGreatDoorW.bI Go.Proofs.YtncdadcmghglkaaGreatDoorW.gI Go.Proofs.YtncdadcmghglkaaGreatDoorW.iL
attribute [local go_sem] kN kP mF mG jB jC kQ kR   -- for this text's walks alone
set_option linter.unusedVariables false
set_option maxHeartbeats 8000000
set_option maxRecDepth 100000
set_option linter.unusedSimpArgs false
mutual
def f_.l0 : Nat → Int → List (nG) → Int → Int → Option (Int)
 | 0, _, _, _, _ => none
 | k + 1, x3, x11, x12, Lj => if Lj < x12 then (if 0 ≤ Lj then (if Lj < (x11.length : Int) then ((f_.f k ((bK x11 Lj).f0) ((bK x11 Lj).f1) ((bK x11 Lj).f2)).bind fun amx => (f_.l0 k (wrap64 (x3 + amx)) x11 x12 (wrap64 (Lj + 1)))) else (none)) else (none)) else (some x3)
def f_.f : Nat → List (gY) → List ByteArray → List (nG) → Option (Int)
 | 0, _, _, _ => none
 | k + 1, dh, bU, aC => if (aC.length : Int) = 0 then (some 1) else (f_.l0 k 0 aC (aC.length : Int) 0)
end
theorem f_.calls (k : Nat) : ∀ (jf : Option Addr) (jg : Nat) (dh : List (gY)) (iY : Option Addr) (iZ : Nat) (bU : List ByteArray) (gX : Option Addr) (eY : Nat) (aC : List (nG)) (r : Int) (w : World) (lZ : Kd.C qJ w jf dh.length dh) (l7 : dh.length ≤ jg) (l9 : Kd.C Kd.string w iY bU.length bU) (mg : bU.length ≤ iZ) (jJ : Kd.C k28 w gX aC.length aC) (jK : aC.length ≤ eY) (h : f_.f k dh bU aC = some r),
  Calls Tryz.prog 78 #[.agg #[.slice jf dh.length jg, .slice iY bU.length iZ, .slice gX aC.length eY]] w fun e w' => e = .returned (.int .i64 r) ∧ Below w.heap.size w w' := by
 induction k using Nat.strongRecOn with
 | _ k ih =>
 intro jf jg dh iY iZ bU gX eY aC r w lZ l7 l9 mg jJ jK h
 cases k with
 | zero => exact absurd h (by simp [f_.f])
 | succ k =>
 simp only [f_.f] at h
 have CG := Tryz.underlying28
 have oO := ak lZ
 have pG := ak l7
 clear lZ l7
 have rE := ak l9
 have uG := ak mg
 clear l9 mg
 have jm := ak jJ
 have lJ := ak jK
 clear jJ jK
 have HB := ak (Below.refl w.heap.size w)
 have H := h
 clear h
 replace H := sp H
 rcases H with ⟨c2, H⟩ | ⟨c2, H⟩
 ·
  have oI := beq_iff_eq.mpr c2
  have uP := bne_eq_false_iff_eq.mpr c2
  clear c2
  obtain rfl := s1 H
  go_enter Tryz.func78, Tryz.ntmps78
  go_wp2_with (refine bX HB 1 #[.slice jf dh.length jg, .slice iY bU.length iZ, .slice gX aC.length eY] 28 ?_; intro ajl w3 Ee aqN hb; replace HB := bs HB hb; clear hb; have z4 := jW Ee.out)
  go_ret
  exact ⟨er, bb⟩
 ·
  have oI := beq_eq_false_iff_ne.mpr c2
  have uP := bne_iff_ne.mpr c2
  have XE : ¬ (aC = []) := fun h_ => c2 (by rw [h_]; rfl)
  have H' := ak H; clear H
  go_enter Tryz.func78, Tryz.ntmps78
  go_wp2_with (refine bX HB 1 #[.slice jf dh.length jg, .slice iY bU.length iZ, .slice gX aC.length eY] 28 ?_; intro ajl w5 Ee aqN hb; replace HB := bs HB hb; clear hb; have z6 := jW Ee.out)
  go_loopg [3, 13] k (fun kq v3 v13 w' => ∃ (dM : Int) (sO : Int), v3 = .int .i64 dM ∧ v13 = .int .i64 sO ∧ ah (f_.l0 kq dM aC (aC.length : Int) sO = some r) ∧ ah (kq ≤ k) ∧ ah (w'.heap[ajl]? = some (.cells #[(.slice jf dh.length jg), (.slice iY bU.length iZ), (.slice gX aC.length eY)] 28 (0, 0))) ∧ ah (Below w.heap.size w w'))
  case atStart => exact ⟨_, _, rs, rs, H', ⟨Nat.le_refl _⟩, ⟨ub Ee.out⟩, ⟨bb⟩⟩
  case round =>
   clear H'
   try clear c2
   try clear oI
   try clear uP
   try clear XE
   obtain ⟨dM, sO, rfl, rfl, HA, xu, Ee, HB⟩ := hrel
   cases gk with
   | zero => exact zz HA.out
   | succ k1 =>
    obtain ⟨H⟩ := HA
    simp only [f_.l0] at H
    replace H := sd H
    rcases H with ⟨rY, H⟩ | ⟨rY, H⟩
    ·
     replace H := oM H; obtain ⟨sH, H⟩ := H; replace H := oM H; obtain ⟨xU, H⟩ := H; replace H := bd H; obtain ⟨amx, U5, H⟩ := H
     have H' := ak H; clear H
     have amy := zi sO
     have amA := zj sO aC.length
     obtain ⟨aqO, amB, amC, amD, amE, amF, amG, axO, ZK, ZL, ZM, ZN, ZO, ZP, ZQ, ZR, ZT⟩ := Ce jm.out sO amy amA
     cases axO
     replace ZK := cl HB.out ZK
     replace ZL := cl HB.out ZL
     replace ZM := cl HB.out ZM
     have agU := ak ZO
     have agV := ak ZN
     clear ZO ZN
     have agW := ak ZQ
     have agX := ak ZP
     clear ZQ ZP
     have agY := ak ZT
     have agZ := ak ZR
     clear ZT ZR
     replace amy := eq_true amy
     replace amA := eq_true amA
     go_wp2_with (first | (refine bY HB 5 #[.slice none 0 0, .slice none 0 0, .slice none 0 0] 28 ?_; intro aA6 SN adE aA7 hg hb; have abL := AZ Ee hg; have abM := A_ Ee hg; replace Ee := kb Ee hb; replace HB := bz HB hb; clear hb hg; have aqP := abM.out; have aqQ := abL.out; have z13 := jW adE.out) | (refine gB Tryz.func78 (ih k1 (by have := xu.out; omega) _ _ ((bK aC sO).f0) _ _ ((bK aC sO).f1) _ _ ((bK aC sO).f2) amx _ (Kd.aW agU.out bb) agV.out (Kd.aW agW.out bb) agX.out (Kd.aW agY.out bb) agZ.out U5.out) ?_; intro Q8 hb; replace Ee := kp Ee #[.slice jf dh.length jg, .slice iY bU.length iZ, .slice (some aqO) aC.length eY] hb; replace adE := kp adE #[.slice amB ((bK aC sO).f0).length amC, .slice amD ((bK aC sO).f1).length amE, .slice amF ((bK aC sO).f2).length amG] hb; replace HB := bz HB hb; clear hb))
     go_roundg k1
     case measure => exact kl
     case rel => exact ⟨_, _, rs, rs, H', ⟨kl⟩, ⟨ub Ee.out⟩, ⟨bb⟩⟩
    ·
     obtain rfl := s1 H
     go_wp2
     go_ret
     exact ⟨er, bb⟩
def lg.f (k : Nat) (dh : List (gY)) (bU : List ByteArray) (aC : List (nG)) : Option (Int) := (kE.f k dh bU aC).bind fun aqR => (if aqR = true then ((f_.f k dh bU aC).bind fun amH => (some amH)) else (some 0))
theorem lg.calls {k jg iZ eY : Nat} {jf iY gX : Option Addr} {dh : List (gY)} {bU : List ByteArray} {aC : List (nG)} {r : Int} {w : World} (lZ : Kd.C qJ w jf dh.length dh) (l7 : dh.length ≤ jg) (l9 : Kd.C Kd.string w iY bU.length bU) (mg : bU.length ≤ iZ) (jJ : Kd.C k28 w gX aC.length aC) (jK : aC.length ≤ eY) (Bl : MaxOk w) (h : lg.f k dh bU aC = some r) :
  Calls Tryz.prog 34 #[.agg #[.slice jf dh.length jg, .slice iY bU.length iZ, .slice gX aC.length eY]] w fun e w' => e = .returned (.int .i64 r) ∧ Below w.heap.size w w' := by
 have CG := Tryz.underlying28
 have oO := ak lZ
 have pG := ak l7
 clear lZ l7
 have rE := ak l9
 have uG := ak mg
 clear l9 mg
 have jm := ak jJ
 have lJ := ak jK
 clear jJ jK
 have HG := ak Bl
 clear Bl
 have HB := ak (Below.refl w.heap.size w)
 unfold lg.f at h; have H := h
 clear h
 replace H := bd H; obtain ⟨aqR, A2, H⟩ := H; replace H := sb H
 rcases H with ⟨rfl, H⟩ | ⟨rfl, H⟩
 ·
  replace H := bd H; obtain ⟨amH, A4, H⟩ := H
  obtain rfl := s1 H
  go_enter Tryz.func34, Tryz.ntmps34
  go_wp2_with (first | (refine bX HB 1 #[.slice jf dh.length jg, .slice iY bU.length iZ, .slice gX aC.length eY] 28 ?_; intro aqS w5 G7 aqT hb; replace HB := bs HB hb; clear hb; have z6 := jW G7.out) | (refine gB Tryz.func26 (kE.calls (cu (Kd.aW oO.out HB.out)) pG.out (cu (Kd.aW rE.out HB.out)) uG.out (cu (Kd.aW jm.out HB.out)) lJ.out ?qc A2.out) ?_; (case qc => first | exact HG.out | exact MaxOk.below HG.out bb | (repeat (first | exact HG.out | apply MaxOk.drewN | apply MaxOk.drew))); intro w7 hb; replace G7 := kb G7 hb; replace HB := bz HB hb; clear hb; have z8 := jW G7.out) | (refine gB Tryz.func78 (f_.calls k _ _ dh _ _ bU _ _ aC amH _ (cu (Kd.aW oO.out HB.out)) pG.out (cu (Kd.aW rE.out HB.out)) uG.out (cu (Kd.aW jm.out HB.out)) lJ.out A4.out) ?_; intro w9 hb; replace G7 := kb G7 hb; replace HB := bz HB hb; clear hb))
  go_ret
  exact ⟨er, bb⟩
 ·
  obtain rfl := s1 H
  go_enter Tryz.func34, Tryz.ntmps34
  go_wp2_with (first | (refine bX HB 1 #[.slice jf dh.length jg, .slice iY bU.length iZ, .slice gX aC.length eY] 28 ?_; intro aqS w10 G7 aqT hb; replace HB := bs HB hb; clear hb; have z11 := jW G7.out) | (refine gB Tryz.func26 (kE.calls (cu (Kd.aW oO.out HB.out)) pG.out (cu (Kd.aW rE.out HB.out)) uG.out (cu (Kd.aW jm.out HB.out)) lJ.out ?qc A2.out) ?_; (case qc => first | exact HG.out | exact MaxOk.below HG.out bb | (repeat (first | exact HG.out | apply MaxOk.drewN | apply MaxOk.drew))); intro w12 hb; replace G7 := kb G7 hb; replace HB := bz HB hb; clear hb))
  go_ret
  exact ⟨er, bb⟩
/-- A state of type 109 at block g of W; what its slices lead to came in by w0. -/
def aK (w0 W : World) (g : Nat) (f0 : List Int) (f1 : Int) : Prop := ∃ A0 c0, W.heap[g]? = some (.cells #[.slice A0 f0.length c0, .int .i64 f1] 109 (0, 0)) ∧ w0.heap.size ≤ g ∧ Kd.C (Kd.int .u8) w0 A0 f0.length f0
theorem aK.grown {w0 W : World} {g : Nat} {f0 : List Int} {f1 : Int} {W1 : World} {row : Option Nat} (h : aK w0 W g f0 f1) (hw : W.grownBy W1 row) (hne : some g ≠ row) : aK w0 W1 g f0 f1 := by
 obtain ⟨A0, c0, hb, hg, hr0⟩ := h
 exact ⟨A0, c0, dw hb hw hne, hg, hr0⟩
theorem aK.avN {w0 W : World} {g : Nat} {f0 : List Int} {f1 : Int} {α : Type} {d : Kd α} {e : Nat} {base : Nat} {ok : Nat → Prop} {v : Value} {xs : List α} (h : aK w0 W g f0 f1) (ho : Kd.N d e W base ok v xs) (ht : e ≠ 109) : some g ≠ v.ownBlock := by
 obtain ⟨A0, c0, hb, hg, hr0⟩ := h
 exact Kd.axP ho hb ht
theorem aK.fresh {w0 W : World} {g : Nat} {f0 : List Int} {f1 : Int} (h : aK w0 W g f0 f1) : ∀ k, W.heap.size ≤ k → k ≠ g := by
 obtain ⟨A0, c0, hb, hg, hr0⟩ := h
 exact Kd.yg hb
theorem aK.kept {w0 W : World} {g : Nat} {f0 : List Int} {f1 : Int} {W1 : World} {S : Nat → Prop} (h : aK w0 W g f0 f1) (hk : Kept W W1 S) (hne : ¬ S g) : aK w0 W1 g f0 f1 := by
 obtain ⟨A0, c0, hb, hg, hr0⟩ := h
 exact ⟨A0, c0, adF hb hk hne, hg, hr0⟩
theorem aK.below {w0 W : World} {g : Nat} {f0 : List Int} {f1 : Int} {W1 : World} (h : aK w0 W g f0 f1) (hw : Below W.heap.size W W1) : aK w0 W1 g f0 f1 := h.grown (E5 hw none) (by simp)
theorem aK.alloc {w0 W : World} {g : Nat} {f0 : List Int} {f1 : Int} (h : aK w0 W g f0 f1) (o : Obj) : aK w0 (W.alloc o) g f0 f1 := h.below (mP (Below.refl _ _) o)
theorem aK.drewN {w0 W : World} {g : Nat} {f0 : List Int} {f1 : Int} (h : aK w0 W g f0 f1) (m : Nat) : aK w0 (W.drewN m) g f0 f1 := h
theorem aK.drew {w0 W : World} {g : Nat} {f0 : List Int} {f1 : Int} (h : aK w0 W g f0 f1) : aK w0 W.drew g f0 f1 := h
theorem aK.at_ {w0 W : World} {g : Nat} {f0 : List Int} {f1 : Int} {w' : World} {m : Nat} (hq : W.drewN m = w') (h : aK w0 W g f0 f1) : aK w0 w' g f0 f1 := by subst hq; exact aK.drewN h m
theorem aK.apart {w0 W : World} {g : Nat} {f0 : List Int} {f1 : Int} {α : Type} {d : Kd α} {e : Nat} {base : Nat} {ok : Nat → Prop} {v : Value} {xs : List α} (h : aK w0 W g f0 f1) (ho : d.R e W base ok v xs) (ht : ∀ q, q ∈ e :: d.E → q ≠ 109) : d.R e W base (fun k => ok k ∧ k ≠ g) v xs := by
 obtain ⟨A0, c0, hb, hg, hr0⟩ := h
 exact Kd.mJ ho hb ht
theorem aK.own_ne {w0 W : World} {g : Nat} {f0 : List Int} {f1 : Int} {α : Type} {d : Kd α} {e : Nat} {base : Nat} {ok : Nat → Prop} {v : Value} {xs : List α} (h : aK w0 W g f0 f1) (ho : d.R e W base ok v xs) (ht : e ≠ 109) : some g ≠ v.ownBlock := by
 obtain ⟨A0, c0, hb, hg, hr0⟩ := h
 exact Kd.oQ ho hb ht
theorem aK.axQ {w0 W : World} {g : Nat} {f0 : List Int} {f1 : Int} {α : Type} {d : Kd α} {e : Nat} {base : Nat} {ok : Nat → Prop} {v : Value} {xs : List α} (h : aK w0 W g f0 f1) (ho : d.Q e W base ok v xs) (ht : ∀ q, q ∈ e :: d.E → q ≠ 109) : d.Q e W base (fun k => ok k ∧ k ≠ g) v xs := by
 obtain ⟨A0, c0, hb, hg, hr0⟩ := h
 exact Kd.ag0 ho hb ht
theorem aK.avO {w0 W : World} {g : Nat} {f0 : List Int} {f1 : Int} {α : Type} {d : Kd α} {e : Nat} {base : Nat} {ok : Nat → Prop} {v : Value} {xs : List α} (h : aK w0 W g f0 f1) (ho : d.Q e W base ok v xs) (ht : e ≠ 109) : some g ≠ v.ownBlock := by
 obtain ⟨A0, c0, hb, hg, hr0⟩ := h
 exact Kd.axR ho hb ht
theorem aK.axS {w0 W : World} {g : Nat} {f0 : List Int} {f1 : Int} {α : Type} {d : Kd α} {e : Nat} {base : Nat} {ok : Nat → Prop} {v : Value} {xs : List α} (h : aK w0 W g f0 f1) (ho : d.S e W base ok v xs) (ht : ∀ q, q ∈ e :: d.E → q ≠ 109) : d.S e W base (fun k => ok k ∧ k ≠ g) v xs := by
 obtain ⟨A0, c0, hb, hg, hr0⟩ := h
 exact Kd.Ti ho hb ht
theorem aK.avP {w0 W : World} {g : Nat} {f0 : List Int} {f1 : Int} {α : Type} {d : Kd α} {e : Nat} {base : Nat} {ok : Nat → Prop} {v : Value} {xs : List α} (h : aK w0 W g f0 f1) (ho : d.S e W base ok v xs) (ht : e ≠ 109) : some g ≠ v.ownBlock := by
 obtain ⟨A0, c0, hb, hg, hr0⟩ := h
 exact Kd.agk ho hb ht
theorem aK.lt {w0 W : World} {g : Nat} {f0 : List Int} {f1 : Int} (h : aK w0 W g f0 f1) : g < W.heap.size := by
 obtain ⟨A0, c0, hb, hg, hr0⟩ := h
 exact xI hb
theorem aK.ge {w0 W : World} {g : Nat} {f0 : List Int} {f1 : Int} (h : aK w0 W g f0 f1) : w0.heap.size ≤ g := by
 obtain ⟨A0, c0, hb, hg, hr0⟩ := h
 exact hg
theorem aK.adG {w0 W : World} {g : Nat} {f0 : List Int} {f1 : Int} {a : Nat} {cs : Array Value} {t : TypeId} {fr : Nat × Nat} (h : aK w0 W g f0 f1) (hb2 : W.heap[a]? = some (.cells cs t fr)) (ht : t ≠ 109) : g ≠ a := by
 obtain ⟨A0, c0, hb, hg, hr0⟩ := h
 rintro rfl
 rw [hb] at hb2
 injection hb2 with hb2
 injection hb2 with _ ht2
 exact ht ht2.symm
theorem aK.far {w0 W : World} {g : Nat} {f0 : List Int} {f1 : Int} {p : Addr} (h : aK w0 W g f0 f1) (hne : g ≠ p.block) (u : Value) : aK w0 (W.setCell p u) g f0 f1 := by
 obtain ⟨A0, c0, hb, hg, hr0⟩ := h
 exact ⟨A0, c0, oV hb hne u, hg, hr0⟩
theorem Dy {W : World} {g : Nat} {A0 : Option Addr} {c0 : Nat} {f0 : List Int} {f1 : Int} (h : W.heap[g]? = some (.cells #[.slice A0 f0.length c0, .int .i64 f1] 109 (0, 0))) : W.cell? ⟨g, 0, none⟩ = some (.slice A0 f0.length c0) := (aG h 0).trans rfl
theorem Dz {W : World} {g : Nat} {A0 : Option Addr} {c0 : Nat} {f0 : List Int} {f1 : Int} (h : W.heap[g]? = some (.cells #[.slice A0 f0.length c0, .int .i64 f1] 109 (0, 0))) : W.cell? ⟨g, 1, none⟩ = some (.int .i64 f1) := (aG h 1).trans rfl
theorem aK.aqU {w0 W : World} {g : Nat} {f0 : List Int} {f1 : Int} (h : aK w0 W g f0 f1) (x : Int) : aK w0 (W.setCell ⟨g, 1, none⟩ (.int .i64 x)) g f0 x := by
 obtain ⟨A0, c0, hb, hg, hr0⟩ := h
 exact ⟨A0, c0, by simpa using TW hb 1 (.int .i64 x), hg, hr0⟩
theorem aK.new (w0 W : World) (A0 : Option Addr) (c0 : Nat) (f0 : List Int) (f1 : Int) (hB : Below w0.heap.size w0 W) (hr0 : Kd.C (Kd.int .u8) w0 A0 f0.length f0) : aK w0 (W.alloc (.cells #[.slice A0 f0.length c0, .int .i64 f1] 109)) W.heap.size f0 f1 := ⟨A0, c0, by simpa using heap_alloc_new W _, hB.size, hr0⟩
/-! words on the state -/
theorem oW {p : Prop} (h : p := by repeat (first | (with_reducible first | exact ah.out (by assumption) | apply aK.alloc | apply aK.drewN | apply aK.drew | apply aK.aqU | refine aK.far ?_ (ah.out (by assumption)) _) | exact ah.out (by assumption))) : p := h
theorem oZ {p : Prop} (h : p := by repeat (first | (with_reducible first | exact ah.out (by assumption) | apply mP | apply o_ | apply iH | refine zU ?_ (aK.ge (ah.out (by assumption))) | refine zU ?_ (ah.out (by assumption))) | exact ah.out (by assumption))) : p := h
theorem bS {P : Program} {ops : Array Oper} {o : Oper} {rest : List Oper} {a : Act} {Q : Exit → Act → World → Prop} {w0 w W c1 c2 c3 : World} {g : Nat} {f0 : List Int} {f1 f2 : Int} (_HI : ah (aK w0 c1 g f0 f1)) (_HK : ah (aJ w c2 g none)) (_HB : ah (Below w0.heap.size w0 c3)) (HW : ah (w0.heap.size ≤ w.heap.size)) (N : Nat) (cs : Array Value) (t : TypeId)
  (h : ∀ b w1, ah (w1.heap[b]? = some (.cells cs t (0, 0))) → ah (w.heap.size ≤ b) → ah (w0.heap.size ≤ b) → ah (g ≠ b) → ah (b ≠ g) → b = W.heap.size → Below W.heap.size W w1 → ah (aK w0 w1 g f0 f2) → ah (aJ w w1 g none) → ah (Below w0.heap.size w0 w1) → wpList P ops Q rest (a.put o.dst (.pointer (some ⟨b, 0, none⟩))) w1)
  (hd : o.dst = some N := by with_reducible rfl) (hg : o.guard = none := by with_reducible rfl) (hr : (execOp a.eval o).run P W = .ok (.value (.pointer (some ⟨W.heap.size, 0, none⟩))) (W.alloc (.cells cs t (0, 0))) := by first | (go_simp; done) | (go_simp; rfl)) (hI : aK w0 W g f0 f2 := by exact oW) (hK : aJ w W g none := by exact kk) (hB : Below w0.heap.size w0 W := by exact oZ) : wpList P ops Q (o :: rest) a W :=
 bE N cs t (fun b hb w1 h1 hw => h b w1 ⟨h1⟩ ⟨by rw [hb]; exact dJ hK⟩ ⟨Nat.le_trans HW.out (by rw [hb]; exact dJ hK)⟩ ⟨by rw [hb]; exact Nat.ne_of_lt hI.lt⟩ ⟨by rw [hb]; exact Nat.ne_of_gt hI.lt⟩ hb hw ⟨hI.below hw⟩ ⟨hK.trans (aJ.of_below hw g none) (.inl rfl)⟩ ⟨iE hB hw⟩) hd hg hr
theorem ki {α : Type} {d : Kd α} {e base : Nat} {ok : Nat → Prop} {v : Value} {xs : List α} {w0 a b c : World} {g : Nat} {f0 : List Int} {f1 : Int} (_old : ah (Kd.R d e a base ok v xs)) (hk : aJ b c g none) (hI : aK w0 b g f0 f1 := by exact oW) (h : Kd.R d e b base ok v xs := by exact rr) (ht : ∀ q, q ∈ e :: d.E → q ≠ 109 := by decide) : ah (Kd.R d e c base ok v xs) := ⟨Kd.aZ (Kd.H9 (hI.apart h ht) hk (fun _ h => h.2)) (fun _ h => h.1)⟩
theorem kj {α β : Type} {d : Kd α} {e base : Nat} {ok : Nat → Prop} {v : Value} {xs : List α} {w0 a b c : World} {g : Nat} {f0 : List Int} {f1 : Int} {d' : Kd β} {e' : Nat} {ok' : Nat → Prop} {v' : Value} {ys : List β} (_old : ah (Kd.R d e a base ok v xs)) (hk : aJ b c g none) (ho : Kd.R d' e' c b.heap.size ok' v' ys) (hI : aK w0 b g f0 f1 := by exact oW) (h : Kd.R d e b base ok v xs := by exact rr) (ht : ∀ q, q ∈ e :: d.E → q ≠ 109 := by decide) : ah (Kd.R d e c base (fun k => ok k ∧ some k ≠ v'.ownBlock) v xs) := ⟨Kd.aZ (Kd.tK (Kd.TY (hI.apart h ht) hk) (Kd.fQ ho)) (fun _ h => h.1)⟩
def tV.f (l0 : List Int) : Option (List Int × Int) := if (l0.length : Int) > 2000 then (if 2000 ≤ (l0.length : Int) then (some (l0.take 2000, 0)) else (none)) else (some (l0, 0))
theorem tV.calls {A0 : Option Addr} {c0 : Nat} {l0 r1 : List Int} {r2 : Int} {w : World} (w0 : World) (hB : Below w0.heap.size w0 w) (hr0 : Kd.C (Kd.int .u8) w0 A0 l0.length l0) (hc0 : l0.length ≤ c0) (h : tV.f l0 = some (r1, r2)) :
  Calls Tryz.prog 55 #[.slice A0 l0.length c0] w fun e w' => ∃ g_ : Nat, e = .returned (.pointer (some ⟨g_, 0, none⟩)) ∧ aK w0 w' g_ r1 r2 ∧ Below w0.heap.size w0 w' ∧ Below w.heap.size w w' := by
 have aA8 := Tryz.underlying109
 have HR0 := ak hr0
 have xq := ak hc0
 clear hr0 hc0
 have HBW := ak (Below.refl w.heap.size w)
 have HW0 := ak hB.size
 have HB := ak hB
 clear hB
 unfold tV.f at h; have H := h
 clear h
 replace H := sp H
 rcases H with ⟨c2, H⟩ | ⟨c2, H⟩
 ·
  have oI : decide (2000 < (l0.length : Int)) = true := decide_eq_true c2
  have uP : decide (2000 < l0.length) = true := decide_eq_true (by omega)
  clear c2
  replace H := zK H; obtain ⟨iQ, zZ, H⟩ := H
  obtain ⟨rfl, rfl⟩ := s2 H
  obtain ⟨i04, aqV, _, aqW, _⟩ := info_parts info5
  obtain ⟨aA9, hA4, hC4⟩ := QK (P := Tryz.prog) (Value.int .u8) 0 22 5 .i64 Tryz.underlying22 aqV aqW A0 c0 l0 2000 (by omega) (of_decide_eq_true (by assumption)) xq.out
  have aqX := ak (Kd.H_ (h1 := fun _ => rfl) (hA4 _ (Kd.DC HR0.out)))
  have aA_ := ak hC4
  clear hA4 hC4 aqV aqW
  go_enter Tryz.func55, Tryz.ntmps55
  go_wp2_with (refine bE 10 #[.slice A0 (l0.take 2000).length c0, .int .i64 0] 109 ?_; intro adH hg w5 hbox hb; have aqY := ak (hbox); have aBa := ge_ HBW hg; have aqZ := ak ((Nat.le_trans HW0.out (by rw [hg]; exact (aj (ul HBW.out)) : w.heap.size ≤ adH) : w0.heap.size ≤ adH)); replace HBW := ak (iE HBW.out hb); replace HB := bs HB hb; clear hb hbox hg)
  go_ret
  exact ⟨_, rfl, (show aK w0 _ adH (l0.take 2000) 0 from ⟨_, _, ub aqY.out, aqZ.out, aqX.out⟩), oZ, bh HBW.out⟩
 ·
  have oI : decide (2000 < (l0.length : Int)) = false := decide_eq_false c2
  have uP : decide (2000 < l0.length) = false := decide_eq_false (by omega)
  clear c2
  obtain ⟨rfl, rfl⟩ := s2 H
  go_enter Tryz.func55, Tryz.ntmps55
  go_wp2_with (refine bE 10 #[.slice A0 l0.length c0, .int .i64 0] 109 ?_; intro adI hg w6 hbox hb; have aq0 := ak (hbox); have aBb := ge_ HBW hg; have aq1 := ak ((Nat.le_trans HW0.out (by rw [hg]; exact (aj (ul HBW.out)) : w.heap.size ≤ adI) : w0.heap.size ≤ adI)); replace HBW := ak (iE HBW.out hb); replace HB := bs HB hb; clear hb hbox hg)
  go_ret
  exact ⟨_, rfl, (show aK w0 _ adI l0 0 from ⟨_, _, ub aq0.out, aq1.out, HR0.out⟩), oZ, bh HBW.out⟩
def cZ.j0 : Nat → Int → Bool → List Int → Int → Option (Int × Int)
 | 0, _, _, _, _ => none
 | k + 1, x1, x24, x1000, oP => if x24 = true then (some (0, oP)) else (if (wrap64 (oP - 1)) < (x1000.length : Int) then (if 0 ≤ (wrap64 (oP - 1)) then (if x1 = 0 then (none) else (some (Int.tmod (wrap64 (rd x1000 (wrap64 (oP - 1)))) x1, oP))) else (none)) else (if (x1000.length : Int) = 0 then (none) else (if 0 ≤ (Int.tmod (wrap64 (oP - 1)) (x1000.length : Int)) then (if (Int.tmod (wrap64 (oP - 1)) (x1000.length : Int)) < (x1000.length : Int) then (if 0 ≤ (Int.tmod (wrap64 ((wrap64 ((wrap64 (oP - 1)) * 7)) + 3)) (x1000.length : Int)) then (if (Int.tmod (wrap64 ((wrap64 ((wrap64 (oP - 1)) * 7)) + 3)) (x1000.length : Int)) < (x1000.length : Int) then (if x1 = 0 then (none) else (some (Int.tmod (Go.bits .xor .i64 (wrap64 ((wrap64 ((wrap64 ((wrap64 ((wrap64 (rd x1000 (Int.tmod (wrap64 (oP - 1)) (x1000.length : Int)))) * 131)) + (wrap64 ((wrap64 (rd x1000 (Int.tmod (wrap64 ((wrap64 ((wrap64 (oP - 1)) * 7)) + 3)) (x1000.length : Int)))) * 1117)))) + (wrap64 ((wrap64 (oP - 1)) * 29)))) + (wrap64 ((wrap64 (Int.tdiv (wrap64 (oP - 1)) (x1000.length : Int))) * 53)))) (wrap64 (Int.tdiv (wrap64 ((wrap64 ((wrap64 ((wrap64 ((wrap64 (rd x1000 (Int.tmod (wrap64 (oP - 1)) (x1000.length : Int)))) * 131)) + (wrap64 ((wrap64 (rd x1000 (Int.tmod (wrap64 ((wrap64 ((wrap64 (oP - 1)) * 7)) + 3)) (x1000.length : Int)))) * 1117)))) + (wrap64 ((wrap64 (oP - 1)) * 29)))) + (wrap64 ((wrap64 (Int.tdiv (wrap64 (oP - 1)) (x1000.length : Int))) * 53)))) 64))) x1, oP))) else (none)) else (none)) else (none)) else (none))))
def cZ.f (k : Nat) (eX : List Int) (kK : Int) (a1 : Int) : Option (Int × Int) := if a1 < 1 then (cZ.j0 k a1 true eX (wrap64 (kK + 1))) else (cZ.j0 k a1 ((eX.length : Int) == 0) eX (wrap64 (kK + 1)))
theorem cZ.calls {k g : Nat} {eX : List Int} {kK a1 r1 r2 : Int} {w : World} (w0 : World) (hI : aK w0 w g eX kK) (hB : Below w0.heap.size w0 w) (h : cZ.f k eX kK a1 = some (r1, r2)) :
  Calls Tryz.prog 57 #[.pointer (some ⟨g, 0, none⟩), .int .i64 a1] w fun e w' => e = .returned (.int .i64 r1) ∧ aK w0 w' g eX r2 ∧ Below w0.heap.size w0 w' ∧ aJ w w' g none := by
 have HI0 := ak hI
 have HK := ak (aJ.refl w g none)
 have HL := ak hB.size
 clear hI
 have HW0 := ak hB.size
 have HB := ak hB
 clear hB
 unfold cZ.f at h; have H := h
 clear h
 have O7 := ak H
 clear H
 obtain ⟨axT, axU, ag1, axV, axW⟩ := HI0.out
 have adJ := Dy ag1
 have amI := Dz ag1
 have amJ := iq ag1 1
 clear ag1 axV
 go_enter Tryz.func57, Tryz.ntmps57
 go_upto_region 2 with (fail)
 repeat (go_quiet (fail); go_upto_region 2 with (fail))
 go_cut [24] (fun v24 wc => ∃ (kq : Nat) (lW : Bool), v24 = .bool lW ∧ ah (cZ.j0 kq a1 lW eX (wrap64 (kK + 1)) = some (r1, r2)) ∧ ah (kq ≤ k) ∧ ah (aK w0 wc g eX (wrap64 (kK + 1))) ∧ ah (aJ w wc g none) ∧ ah (Below w0.heap.size w0 wc))
 case first =>
  have H := O7.out
  clear O7
  replace H := sd H
  rcases H with ⟨nR, H⟩ | ⟨nR, H⟩
  ·
   (first | rw [nR] | (simp only [dU, fU]; rw [nR]) | skip)
   have H' := ak H; clear H
   go_wp2
   repeat (go_quiet (fail); try go_wp2)
   go_meet
   case rel => exact ⟨_, _, rs, H', ⟨KR⟩, ⟨oW⟩, ⟨kh HK.out⟩, ⟨oZ⟩⟩
  ·
   (first | rw [nR] | (simp only [dU, fU]; rw [nR]) | skip)
   have H' := ak H; clear H
   obtain ⟨axX, axY, ag2, axZ, ax0⟩ := HI0.out
   have ax1 := Dy ag2
   have ax2 := Dz ag2
   have ax3 := iq ag2 1
   clear ag2 axZ
   go_wp2
   repeat (go_quiet (fail); try go_wp2)
   go_meet
   case rel => exact ⟨_, _, rs, H', ⟨KR⟩, ⟨oW⟩, ⟨kh HK.out⟩, ⟨oZ⟩⟩
 case rest =>
  clear O7
  try clear adJ
  try clear amI
  try clear amJ
  obtain ⟨kq, lW, rfl, HA, HJ2, HI0, HK, HB⟩ := hcut
  cases kq with
  | zero => exact zz HA.out
  | succ Y9 =>
   obtain ⟨H⟩ := HA
   simp only [cZ.j0] at H
   replace H := sb H
   rcases H with ⟨rfl, H⟩ | ⟨rfl, H⟩
   ·
    obtain ⟨rfl, rfl⟩ := s2 H
    go_wp2
    repeat (go_quiet (fail); try go_wp2)
    go_ret
    exact ⟨er, oW, oZ, kh HK.out⟩
   ·
    replace H := sp H
    rcases H with ⟨c8, H⟩ | ⟨c8, H⟩
    ·
     have sH := decide_eq_true c8
     (try (have Ba : decide (((wrap64 (kK + 1)) - 1) < (eX.length : Int)) = true := decide_eq_true (by have h_ := c8; unfold wrap64 at h_; omega)))
     clear c8
     obtain ⟨OQ, HY⟩ : ∃ j_ : Int, (wrap64 ((wrap64 (kK + 1)) - 1)) = j_ := ⟨_, rfl⟩
     replace H : (if 0 ≤ (OQ) then (if a1 = 0 then (none) else (some (Int.tmod (wrap64 (rd eX (OQ))) a1, (wrap64 (kK + 1))))) else (none)) = some (r1, r2) := by first | (rw [HY] at H; exact H) | (simp only [HY] at H ⊢; exact H)
     (try rw [HY] at sH)
     have ait : (IntKind.i64.wrap ((wrap64 (kK + 1)) - 1)) = OQ := (dU _).trans HY
     replace H := oM H; obtain ⟨oC, H⟩ := H; replace H := sp H
     rcases H with ⟨c11, H⟩ | ⟨c11, H⟩
     ·
      exact absurd H (by simp)
     ·
      have uH := beq_eq_false_iff_ne.mpr c11
      have Ec := bne_iff_ne.mpr c11
      obtain ⟨rfl, rfl⟩ := s2 H
      obtain ⟨avQ, avR, ZU, aq2, ag3⟩ := HI0.out
      have ag4 := Dy ZU
      have avS := Dz ZU
      have avT := iq ZU 1
      clear ZU aq2
      have amK := zi (OQ)
      have amL := zj (OQ) eX.length
      obtain ⟨aBd, ax4, ZV⟩ := Kd.T_ ag3 (OQ) amK amL
      cases ax4
      replace ZV := r_ HB.out ZV
      replace amK := eq_true amK
      replace amL := eq_true amL
      go_wp2
      repeat (go_quiet (fail); try go_wp2)
      go_ret
      exact ⟨by first | rfl | (simp [wK, wL] <;> rfl) | (simp only [← HY]; first | rfl | (simp [wK, wL] <;> rfl)) | (simp [*, wK, wL] <;> rfl), oW, oZ, kh HK.out⟩
    ·
     have sH := decide_eq_false c8
     (try (have Ba : decide (((wrap64 (kK + 1)) - 1) < (eX.length : Int)) = false := decide_eq_false (by have h_ := c8; unfold wrap64 at h_; omega)))
     clear c8
     replace H := sp H
     rcases H with ⟨c13, H⟩ | ⟨c13, H⟩
     ·
      exact absurd H (by simp)
     ·
      have vS := beq_eq_false_iff_ne.mpr c13
      have zB := bne_iff_ne.mpr c13
      have aiv : ¬ (eX = []) := fun h_ => c13 (by rw [h_]; rfl)
      obtain ⟨Jb, Jc⟩ : ∃ j_ : Int, (Int.tmod (wrap64 ((wrap64 (kK + 1)) - 1)) (eX.length : Int)) = j_ := ⟨_, rfl⟩
      replace H : (if 0 ≤ (Jb) then (if (Jb) < (eX.length : Int) then (if 0 ≤ (Int.tmod (wrap64 ((wrap64 ((wrap64 ((wrap64 (kK + 1)) - 1)) * 7)) + 3)) (eX.length : Int)) then (if (Int.tmod (wrap64 ((wrap64 ((wrap64 ((wrap64 (kK + 1)) - 1)) * 7)) + 3)) (eX.length : Int)) < (eX.length : Int) then (if a1 = 0 then (none) else (some (Int.tmod (Go.bits .xor .i64 (wrap64 ((wrap64 ((wrap64 ((wrap64 ((wrap64 (rd eX (Jb))) * 131)) + (wrap64 ((wrap64 (rd eX (Int.tmod (wrap64 ((wrap64 ((wrap64 ((wrap64 (kK + 1)) - 1)) * 7)) + 3)) (eX.length : Int)))) * 1117)))) + (wrap64 ((wrap64 ((wrap64 (kK + 1)) - 1)) * 29)))) + (wrap64 ((wrap64 (Int.tdiv (wrap64 ((wrap64 (kK + 1)) - 1)) (eX.length : Int))) * 53)))) (wrap64 (Int.tdiv (wrap64 ((wrap64 ((wrap64 ((wrap64 ((wrap64 (rd eX (Jb))) * 131)) + (wrap64 ((wrap64 (rd eX (Int.tmod (wrap64 ((wrap64 ((wrap64 ((wrap64 (kK + 1)) - 1)) * 7)) + 3)) (eX.length : Int)))) * 1117)))) + (wrap64 ((wrap64 ((wrap64 (kK + 1)) - 1)) * 29)))) + (wrap64 ((wrap64 (Int.tdiv (wrap64 ((wrap64 (kK + 1)) - 1)) (eX.length : Int))) * 53)))) 64))) a1, (wrap64 (kK + 1))))) else (none)) else (none)) else (none)) else (none)) = some (r1, r2) := by first | (rw [Jc] at H; exact H) | (simp only [Jc] at H ⊢; exact H)
      replace H := oM H; obtain ⟨vT, H⟩ := H; replace H := oM H; obtain ⟨zD, H⟩ := H
      obtain ⟨XF, adK⟩ : ∃ j_ : Int, (Int.tmod (wrap64 ((wrap64 ((wrap64 ((wrap64 (kK + 1)) - 1)) * 7)) + 3)) (eX.length : Int)) = j_ := ⟨_, rfl⟩
      replace H : (if 0 ≤ (XF) then (if (XF) < (eX.length : Int) then (if a1 = 0 then (none) else (some (Int.tmod (Go.bits .xor .i64 (wrap64 ((wrap64 ((wrap64 ((wrap64 ((wrap64 (rd eX (Jb))) * 131)) + (wrap64 ((wrap64 (rd eX (XF))) * 1117)))) + (wrap64 ((wrap64 ((wrap64 (kK + 1)) - 1)) * 29)))) + (wrap64 ((wrap64 (Int.tdiv (wrap64 ((wrap64 (kK + 1)) - 1)) (eX.length : Int))) * 53)))) (wrap64 (Int.tdiv (wrap64 ((wrap64 ((wrap64 ((wrap64 ((wrap64 (rd eX (Jb))) * 131)) + (wrap64 ((wrap64 (rd eX (XF))) * 1117)))) + (wrap64 ((wrap64 ((wrap64 (kK + 1)) - 1)) * 29)))) + (wrap64 ((wrap64 (Int.tdiv (wrap64 ((wrap64 (kK + 1)) - 1)) (eX.length : Int))) * 53)))) 64))) a1, (wrap64 (kK + 1))))) else (none)) else (none)) = some (r1, r2) := by first | (rw [adK] at H; exact H) | (simp only [adK] at H ⊢; exact H)
      replace H := oM H; obtain ⟨zC, H⟩ := H; replace H := oM H; obtain ⟨z_, H⟩ := H; replace H := sp H
      rcases H with ⟨c20, H⟩ | ⟨c20, H⟩
      ·
       exact absurd H (by simp)
      ·
       have MP := beq_eq_false_iff_ne.mpr c20
       have Vm := bne_iff_ne.mpr c20
       obtain ⟨rfl, rfl⟩ := s2 H
       obtain ⟨avU, avV, ZW, aq3, ZX⟩ := HI0.out
       have avW := Dy ZW
       have avX := Dz ZW
       have avY := iq ZW 1
       clear ZW aq3
       have amM := zi (Jb)
       have amN := zj (Jb) eX.length
       obtain ⟨aq4, ax5, ZY⟩ := Kd.T_ ZX (Jb) amM amN
       cases ax5
       replace ZY := r_ HB.out ZY
       replace amM := eq_true amM
       replace amN := eq_true amN
       have amO := zi (XF)
       have amP := zj (XF) eX.length
       obtain ⟨aq5, ax6, Z4⟩ := Kd.T_ ZX (XF) amO amP
       obtain rfl : aq4 = aq5 := (by injection ax6)
       replace Z4 := r_ HB.out Z4
       replace amO := eq_true amO
       replace amP := eq_true amP
       go_wp2
       repeat (go_quiet (fail); try go_wp2)
       go_ret
       exact ⟨by first | rfl | (simp [wK, wL] <;> rfl) | (simp only [← Jc, ← adK]; first | rfl | (simp [wK, wL] <;> rfl)) | (simp [*, wK, wL] <;> rfl), oW, oZ, kh HK.out⟩
def fH.f (k : Nat) (eX : List Int) (kK : Int) (l1 : List ByteArray) : Option (ByteArray × Int) := (cZ.f k eX kK (l1.length : Int)).bind fun Z5 => (if 0 ≤ Z5.1 then (if Z5.1 < (l1.length : Int) then (some (o8 ByteArray.empty l1 Z5.1, Z5.2)) else (none)) else (none))
theorem fH.calls {k g c1 : Nat} {eX : List Int} {kK r2 : Int} {A1 : Option Addr} {l1 : List ByteArray} {r1 : ByteArray} {w : World} (w0 : World) (hI : aK w0 w g eX kK) (hB : Below w0.heap.size w0 w) (hr1 : Kd.C Kd.string w A1 l1.length l1) (hc1 : l1.length ≤ c1) (hf1 : ∀ ad, A1 = some ad → 0 < l1.length → ad.block ≠ g) (h : fH.f k eX kK l1 = some (r1, r2)) :
  Calls Tryz.prog 58 #[.pointer (some ⟨g, 0, none⟩), .slice A1 l1.length c1] w fun e w' => e = .returned (.string r1) ∧ aK w0 w' g eX r2 ∧ Below w0.heap.size w0 w' ∧ aJ w w' g none := by
 have HR1 := ak hr1
 have HC1 := ak hc1
 clear hr1 hc1
 have HI0 := ak hI
 have HK := ak (aJ.refl w g none)
 have HL := ak hB.size
 clear hI
 have HW0 := ak hB.size
 have HB := ak hB
 clear hB
 unfold fH.f at h; have H := h
 clear h
 replace H := bd H
 obtain ⟨⟨amQ, aEH⟩, A3, H⟩ := H
 (try dsimp only at H)
 replace H := oM H; obtain ⟨rX, H⟩ := H; replace H := oM H; obtain ⟨nR, H⟩ := H
 obtain ⟨rfl, rfl⟩ := s2 H
 go_enter Tryz.func58, Tryz.ntmps58
 go_wp2_with (refine gL 57 9 Tryz.func57 #[.pointer (some ⟨g, 0, none⟩), .int .i64 (l1.length : Int)] ?_; (with_reducible refine (cZ.calls w0 ?fG ?jc A3.out).mono ?_); (case fG => exact oW); (case jc => exact oZ); rintro e w6 ⟨rfl, hi, hb, hk⟩; refine ⟨_, rfl, ?_⟩; replace HK := kt HK hk; replace HB := ak (hb); replace HI0 := ak (hi); clear hb; (try clear hk); (try clear hi); have amR : 0 ≤ (amQ : Int) := of_decide_eq_true (by assumption); have amS : amQ < (l1.length : Int) := of_decide_eq_true (by assumption); obtain ⟨aq6, ax7, Z7⟩ := Kd.kF HR1.out amQ amR amS; cases ax7; replace Z7 := F8 HK.out Z7 (by first | (rw [add_block]; exact hf1 _ rfl (by omega)) | exact hf1 _ rfl (by omega) | exact hf1 aq6 rfl (by omega)); replace amR := eq_true amR; replace amS := eq_true amS)
 go_ret
 exact ⟨er, oW, oZ, kh HK.out⟩
def kG.f (k : Nat) (eX : List Int) (kK : Int) (l1 : List Int) : Option (Int × Int) := (cZ.f k eX kK (l1.length : Int)).bind fun Z8 => (if 0 ≤ Z8.1 then (if Z8.1 < (l1.length : Int) then (some (rd l1 Z8.1, Z8.2)) else (none)) else (none))
theorem kG.calls {k g c1 : Nat} {eX l1 : List Int} {kK r1 r2 : Int} {A1 : Option Addr} {w : World} (w0 : World) (hI : aK w0 w g eX kK) (hB : Below w0.heap.size w0 w) (hr1 : Kd.C (Kd.int .i64) w A1 l1.length l1) (hc1 : l1.length ≤ c1) (hf1 : ∀ ad, A1 = some ad → 0 < l1.length → ad.block ≠ g) (h : kG.f k eX kK l1 = some (r1, r2)) :
  Calls Tryz.prog 97 #[.pointer (some ⟨g, 0, none⟩), .slice A1 l1.length c1] w fun e w' => e = .returned (.int .i64 r1) ∧ aK w0 w' g eX r2 ∧ Below w0.heap.size w0 w' ∧ aJ w w' g none := by
 have HR1 := ak hr1
 have HC1 := ak hc1
 clear hr1 hc1
 have HI0 := ak hI
 have HK := ak (aJ.refl w g none)
 have HL := ak hB.size
 clear hI
 have HW0 := ak hB.size
 have HB := ak hB
 clear hB
 unfold kG.f at h; have H := h
 clear h
 replace H := bd H
 obtain ⟨⟨amT, aEI⟩, A3, H⟩ := H
 (try dsimp only at H)
 replace H := oM H; obtain ⟨rX, H⟩ := H; replace H := oM H; obtain ⟨nR, H⟩ := H
 obtain ⟨rfl, rfl⟩ := s2 H
 go_enter Tryz.func97, Tryz.ntmps97
 go_wp2_with (refine gL 57 9 Tryz.func57 #[.pointer (some ⟨g, 0, none⟩), .int .i64 (l1.length : Int)] ?_; (with_reducible refine (cZ.calls w0 ?fG ?jc A3.out).mono ?_); (case fG => exact oW); (case jc => exact oZ); rintro e w6 ⟨rfl, hi, hb, hk⟩; refine ⟨_, rfl, ?_⟩; replace HK := kt HK hk; replace HB := ak (hb); replace HI0 := ak (hi); clear hb; (try clear hk); (try clear hi); have amU : 0 ≤ (amT : Int) := of_decide_eq_true (by assumption); have amV : amT < (l1.length : Int) := of_decide_eq_true (by assumption); obtain ⟨aq7, ax8, Z9⟩ := Kd.T_ HR1.out amT amU amV; cases ax8; replace Z9 := F8 HK.out Z9 (by first | (rw [add_block]; exact hf1 _ rfl (by omega)) | exact hf1 _ rfl (by omega) | exact hf1 aq7 rfl (by omega)); replace amU := eq_true amU; replace amV := eq_true amV)
 go_ret
 exact ⟨er, oW, oZ, kh HK.out⟩
def gQ.l0 : Nat → ByteArray → Int → Option (Bool)
 | 0, _, _ => none
 | k + 1, x0, x3 => if (wrap64 (x3 + 1)) < (x0.size : Int) then (if 0 ≤ x3 then (if x3 < (x0.size : Int) then (if (bt x0 x3) = 61 then (if 0 ≤ (wrap64 (x3 + 1)) then (if (bt x0 (wrap64 (x3 + 1))) = 63 then (some true) else (gQ.l0 k x0 (wrap64 (x3 + 1)))) else (none)) else (gQ.l0 k x0 (wrap64 (x3 + 1)))) else (none)) else (none)) else ((aQ.f k x0).bind fun aq8 => (if aq8 = true then ((bP.f k x0).bind fun aq9 => (if aq9.toList = x0.toList then (some (decide ((x0.size : Int) > 120))) else (some true))) else (some true)))
def gQ.f (k : Nat) (a0 : ByteArray) : Option (Bool) := gQ.l0 k a0 0
theorem gQ.calls {k : Nat} {a0 : ByteArray} {r : Bool} {w : World} (h : gQ.f k a0 = some r) :
  Calls Tryz.prog 207 #[.string a0] w fun e w' => e = .returned (.bool r) ∧ dS w w' := by
 unfold gQ.f at h; have H := h
 clear h
 have H' := ak H; clear H
 go_enter Tryz.func207, Tryz.ntmps207
 go_wp2
 go_loopg [3] k (fun kq v3 w' => ∃ (dM : Int), v3 = .int .i64 dM ∧ ah (gQ.l0 kq a0 dM = some r) ∧ ah (kq ≤ k) ∧ dS w w')
 case atStart => exact ⟨_, rs, H', ⟨Nat.le_refl _⟩, dn⟩
 case round =>
  clear H'
  obtain ⟨dM, rfl, HA, xu, ⟨m1, rfl⟩⟩ := hrel
  cases gk with
  | zero => exact zz HA.out
  | succ k1 =>
   obtain ⟨H⟩ := HA
   simp only [gQ.l0] at H
   replace H := sp H
   rcases H with ⟨c2, H⟩ | ⟨c2, H⟩
   ·
    have oI := decide_eq_true c2
    (try (have uP : decide ((dM + 1) < (a0.size : Int)) = true := decide_eq_true (by have h_ := c2; unfold wrap64 at h_; omega)))
    clear c2
    replace H := oM H; obtain ⟨iQ, H⟩ := H; replace H := oM H; obtain ⟨rX, H⟩ := H; replace H := sq H
    rcases H with ⟨nT, wF, H⟩ | ⟨c6, nT, wF, H⟩
    ·
     obtain ⟨ji7, NK⟩ : ∃ j_ : Int, (wrap64 (dM + 1)) = j_ := ⟨_, rfl⟩
     replace H : (if 0 ≤ (ji7) then (if (bt a0 (ji7)) = 63 then (some true) else (gQ.l0 k1 a0 ji7)) else (none)) = some r := by first | (rw [NK] at H; exact H) | (simp only [NK] at H ⊢; exact H)
     (try rw [NK] at oI)
     have aq_ : (IntKind.i64.wrap (dM + 1)) = ji7 := (dU _).trans NK
     replace H := oM H; obtain ⟨sH, H⟩ := H; replace H := sq H
     rcases H with ⟨oC, sK, H⟩ | ⟨c10, oC, sK, H⟩
     ·
      obtain rfl := s1 H
      obtain ⟨p5, q5, hx5⟩ := bx a0 dM
      obtain ⟨p9, q9, YQ⟩ := bx a0 (ji7)
      go_wp2
      go_ret
      exact ⟨by first | rfl | (simp; done) | (simp only [← NK] <;> (first | rfl | simp)) | (simp [*]; done), dn⟩
     ·
      have H' := ak H; clear H
      obtain ⟨p5, q5, hx5⟩ := bx a0 dM
      obtain ⟨p9, q9, YQ⟩ := bx a0 (ji7)
      go_wp2
      go_roundg k1
      case measure => exact kl
      case rel => exact ⟨_, (by first | rfl | (simp; done) | (simp only [← NK] <;> (first | rfl | simp)) | (simp [*]; done)), H', ⟨kl⟩, dn⟩
    ·
     have H' := ak H; clear H
     obtain ⟨p5, q5, hx5⟩ := bx a0 dM
     go_wp2
     go_roundg k1
     case measure => exact kl
     case rel => exact ⟨_, rs, H', ⟨kl⟩, dn⟩
   ·
    have oI := decide_eq_false c2
    (try (have uP : decide ((dM + 1) < (a0.size : Int)) = false := decide_eq_false (by have h_ := c2; unfold wrap64 at h_; omega)))
    clear c2
    replace H := bd H; obtain ⟨aq8, YJ, H⟩ := H; replace H := sb H
    rcases H with ⟨rfl, H⟩ | ⟨rfl, H⟩
    ·
     replace H := bd H; obtain ⟨aq9, A13, H⟩ := H; replace H := sq H
     rcases H with ⟨tu, xA, H⟩ | ⟨c14, tu, xA, H⟩
     ·
      obtain rfl := s1 H
      go_wp2_with (first | (refine gA Tryz.func159 (aQ.calls YJ.out) ?_; intro nd) | (go_at_call 179; refine mA (bP.calls A13.out) ?_; intro nd))
      go_ret
      exact ⟨rs, dn⟩
     ·
      obtain rfl := s1 H
      go_wp2_with (first | (refine gA Tryz.func159 (aQ.calls YJ.out) ?_; intro nd) | (go_at_call 179; refine mA (bP.calls A13.out) ?_; intro nd))
      go_ret
      exact ⟨rs, dn⟩
    ·
     obtain rfl := s1 H
     go_wp2_with (refine gA Tryz.func159 (aQ.calls YJ.out) ?_; intro nd)
     go_ret
     exact ⟨rs, dn⟩
def lQ.f (a0 : Int) : Option (ByteArray) := if 0 ≤ (a0 / 16) then (if (a0 / 16) ≤ (((a0 / 16) + 1) % 256) then (if (((a0 / 16) + 1) % 256) ≤ 16 then (if 1 + ((⟨#[48, 49, 50, 51, 52, 53, 54, 55, 56, 57, 65, 66, 67, 68, 69, 70]⟩ : ByteArray).extract ((a0 / 16) : Int).toNat ((((a0 / 16) + 1) % 256) : Int).toNat).size ≤ 9223372036854775807 then (if 0 ≤ (Go.bits .and .u8 a0 15) then (if (Go.bits .and .u8 a0 15) ≤ (((Go.bits .and .u8 a0 15) + 1) % 256) then (if (((Go.bits .and .u8 a0 15) + 1) % 256) ≤ 16 then (if ((⟨#[61]⟩ : ByteArray) ++ ((⟨#[48, 49, 50, 51, 52, 53, 54, 55, 56, 57, 65, 66, 67, 68, 69, 70]⟩ : ByteArray).extract ((a0 / 16) : Int).toNat ((((a0 / 16) + 1) % 256) : Int).toNat)).size + ((⟨#[48, 49, 50, 51, 52, 53, 54, 55, 56, 57, 65, 66, 67, 68, 69, 70]⟩ : ByteArray).extract ((Go.bits .and .u8 a0 15) : Int).toNat ((((Go.bits .and .u8 a0 15) + 1) % 256) : Int).toNat).size ≤ 9223372036854775807 then (some (((⟨#[61]⟩ : ByteArray) ++ ((⟨#[48, 49, 50, 51, 52, 53, 54, 55, 56, 57, 65, 66, 67, 68, 69, 70]⟩ : ByteArray).extract ((a0 / 16) : Int).toNat ((((a0 / 16) + 1) % 256) : Int).toNat)) ++ ((⟨#[48, 49, 50, 51, 52, 53, 54, 55, 56, 57, 65, 66, 67, 68, 69, 70]⟩ : ByteArray).extract ((Go.bits .and .u8 a0 15) : Int).toNat ((((Go.bits .and .u8 a0 15) + 1) % 256) : Int).toNat))) else (none)) else (none)) else (none)) else (none)) else (none)) else (none)) else (none)) else (none)
theorem lQ.calls {a0 : Int} {r : ByteArray} {w : World} (h : lQ.f a0 = some r) :
  Calls Tryz.prog 221 #[.int .u8 a0] w fun e w' => e = .returned (.string r) ∧ dS w w' := by
 unfold lQ.f at h; have H := h
 clear h
 obtain ⟨QD, amW⟩ : ∃ j_ : Int, (a0 / 16) = j_ := ⟨_, rfl⟩
 replace H : (if 0 ≤ (QD) then (if (QD) ≤ (((QD) + 1) % 256) then (if (((QD) + 1) % 256) ≤ 16 then (if 1 + ((⟨#[48, 49, 50, 51, 52, 53, 54, 55, 56, 57, 65, 66, 67, 68, 69, 70]⟩ : ByteArray).extract ((QD) : Int).toNat ((((QD) + 1) % 256) : Int).toNat).size ≤ 9223372036854775807 then (if 0 ≤ (Go.bits .and .u8 a0 15) then (if (Go.bits .and .u8 a0 15) ≤ (((Go.bits .and .u8 a0 15) + 1) % 256) then (if (((Go.bits .and .u8 a0 15) + 1) % 256) ≤ 16 then (if ((⟨#[61]⟩ : ByteArray) ++ ((⟨#[48, 49, 50, 51, 52, 53, 54, 55, 56, 57, 65, 66, 67, 68, 69, 70]⟩ : ByteArray).extract ((QD) : Int).toNat ((((QD) + 1) % 256) : Int).toNat)).size + ((⟨#[48, 49, 50, 51, 52, 53, 54, 55, 56, 57, 65, 66, 67, 68, 69, 70]⟩ : ByteArray).extract ((Go.bits .and .u8 a0 15) : Int).toNat ((((Go.bits .and .u8 a0 15) + 1) % 256) : Int).toNat).size ≤ 9223372036854775807 then (some (((⟨#[61]⟩ : ByteArray) ++ ((⟨#[48, 49, 50, 51, 52, 53, 54, 55, 56, 57, 65, 66, 67, 68, 69, 70]⟩ : ByteArray).extract ((QD) : Int).toNat ((((QD) + 1) % 256) : Int).toNat)) ++ ((⟨#[48, 49, 50, 51, 52, 53, 54, 55, 56, 57, 65, 66, 67, 68, 69, 70]⟩ : ByteArray).extract ((Go.bits .and .u8 a0 15) : Int).toNat ((((Go.bits .and .u8 a0 15) + 1) % 256) : Int).toNat))) else (none)) else (none)) else (none)) else (none)) else (none)) else (none)) else (none)) else (none)) = some r := by first | (rw [amW] at H; exact H) | (simp only [amW] at H ⊢; exact H)
 replace H := zK H; obtain ⟨iQ, zZ, H⟩ := H; replace H := nn H; obtain ⟨c4, H⟩ := H
 have rX := eq_true c4
 have Xb := decide_eq_true c4
 replace H := nn H; obtain ⟨c5, H⟩ := H
 have nR := eq_true c5
 have Ji := decide_eq_true c5
 replace H := nn H; obtain ⟨c6, H⟩ := H
 have nT := eq_true c6
 have wF := decide_eq_true c6
 try have aEJ : (9223372036854775807 < 1 + (((⟨#[48, 49, 50, 51, 52, 53, 54, 55, 56, 57, 65, 66, 67, 68, 69, 70]⟩ : ByteArray).extract ((QD) : Int).toNat ((((QD) + 1) % 256) : Int).toNat).size)) = False := by have h_ := c6; simp only [ByteArray.size_append, ByteArray.size_extract] at h_; refine eq_false ?_; simp only [decide_eq_true_eq] at *; omega
 try have agm : (9223372036854775807 < 1 + ((⟨#[48, 49, 50, 51, 52, 53, 54, 55, 56, 57, 65, 66, 67, 68, 69, 70]⟩ : ByteArray).extract ((QD) : Int).toNat ((((QD) + 1) % 256) : Int).toNat).size) = False := eq_false (Nat.not_lt.2 c6)
 replace H := zK H; obtain ⟨rY, Lc, H⟩ := H; replace H := nn H; obtain ⟨c8, H⟩ := H
 have sH := eq_true c8
 have Ba := decide_eq_true c8
 replace H := nn H; obtain ⟨c9, H⟩ := H
 have xU := eq_true c9
 have EX := decide_eq_true c9
 replace H := nn H; obtain ⟨c10, H⟩ := H
 have oC := eq_true c10
 have sK := decide_eq_true c10
 try have apr : (9223372036854775807 < (⟨#[61]⟩ : ByteArray).size + (((⟨#[48, 49, 50, 51, 52, 53, 54, 55, 56, 57, 65, 66, 67, 68, 69, 70]⟩ : ByteArray).extract ((QD) : Int).toNat ((((QD) + 1) % 256) : Int).toNat).size) + (((⟨#[48, 49, 50, 51, 52, 53, 54, 55, 56, 57, 65, 66, 67, 68, 69, 70]⟩ : ByteArray).extract ((Go.bits .and .u8 a0 15) : Int).toNat ((((Go.bits .and .u8 a0 15) + 1) % 256) : Int).toNat).size)) = False := by have h_ := c10; simp only [ByteArray.size_append, ByteArray.size_extract] at h_; refine eq_false ?_; simp only [decide_eq_true_eq] at *; omega
 try have aiP : (9223372036854775807 < 1 + (((⟨#[48, 49, 50, 51, 52, 53, 54, 55, 56, 57, 65, 66, 67, 68, 69, 70]⟩ : ByteArray).extract ((QD) : Int).toNat ((((QD) + 1) % 256) : Int).toNat).size) + (((⟨#[48, 49, 50, 51, 52, 53, 54, 55, 56, 57, 65, 66, 67, 68, 69, 70]⟩ : ByteArray).extract ((Go.bits .and .u8 a0 15) : Int).toNat ((((Go.bits .and .u8 a0 15) + 1) % 256) : Int).toNat).size)) = False := by have h_ := (eq_false (Nat.not_lt.2 c10) : (9223372036854775807 < ((⟨#[61]⟩ : ByteArray) ++ ((⟨#[48, 49, 50, 51, 52, 53, 54, 55, 56, 57, 65, 66, 67, 68, 69, 70]⟩ : ByteArray).extract ((QD) : Int).toNat ((((QD) + 1) % 256) : Int).toNat)).size + ((⟨#[48, 49, 50, 51, 52, 53, 54, 55, 56, 57, 65, 66, 67, 68, 69, 70]⟩ : ByteArray).extract ((Go.bits .and .u8 a0 15) : Int).toNat ((((Go.bits .and .u8 a0 15) + 1) % 256) : Int).toNat).size) = False); simp only [ByteArray.size_append] at h_; exact h_
 try have YV : (9223372036854775807 < ((⟨#[61]⟩ : ByteArray) ++ ((⟨#[48, 49, 50, 51, 52, 53, 54, 55, 56, 57, 65, 66, 67, 68, 69, 70]⟩ : ByteArray).extract ((QD) : Int).toNat ((((QD) + 1) % 256) : Int).toNat)).size + ((⟨#[48, 49, 50, 51, 52, 53, 54, 55, 56, 57, 65, 66, 67, 68, 69, 70]⟩ : ByteArray).extract ((Go.bits .and .u8 a0 15) : Int).toNat ((((Go.bits .and .u8 a0 15) + 1) % 256) : Int).toNat).size) = False := eq_false (Nat.not_lt.2 c10)
 obtain rfl := s1 H
 go_enter Tryz.func221, Tryz.ntmps221
 go_wp2
 repeat (go_quiet (fail); try go_wp2)
 go_ret
 exact ⟨by first | rfl | (simp; done) | (simp only [← amW] <;> (first | rfl | simp)) | (simp [*]; done), dn⟩
end Go.Proofs.YtncdadcmghglkaaGreatDoor.PFnCountParts
