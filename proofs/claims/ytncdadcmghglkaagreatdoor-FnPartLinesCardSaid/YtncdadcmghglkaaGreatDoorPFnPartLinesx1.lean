/- Printed walks; conditions: those in each statement. -/
import Derived.Test.YtncdadcmghglkaaGreatDoorVFnPartLinesQt
import Derived.Test.YtncdadcmghglkaaGreatDoorVFnPartLinesYt
import Derived.Test.YtncdadcmghglkaaGreatDoorPFnPartLinesx0
-- short
-- dense
-- sq
-- sq2
namespace Go.Proofs.YtncdadcmghglkaaGreatDoor.PFnPartLines
open Go.RowKit Go.Proofs.YtncdadcmghglkaaGreatDoor.X Go.Proofs.YtncdadcmghglkaaGreatDoorW.bI Go.Proofs.YtncdadcmghglkaaGreatDoorW.iy Go.Proofs.YtncdadcmghglkaaGreatDoorW.iZ
attribute [local go_sem] kZ lg nK nM jW jX lq lu   -- for this text's walks alone
set_option linter.unusedVariables false
set_option maxHeartbeats 8000000
set_option maxRecDepth 100000
set_option linter.unusedSimpArgs false
def fD.l0 : Nat → List ByteArray → List ByteArray → Int → Option (Bool)
 | 0, _, _, _ => none
 | k + 1, x0, x1, x5 => if x5 < (x0.length : Int) then (if 0 ≤ x5 then (if x5 < (x1.length : Int) then (if (mX ByteArray.empty x0 x5).toList = (mX ByteArray.empty x1 x5).toList then (fD.l0 k x0 x1 (wrap64 (x5 + 1))) else (some false)) else (none)) else (none)) else (some true)
def fD.f (k : Nat) (l0 : List ByteArray) (l1 : List ByteArray) : Option (Bool) := if (l0.length : Int) = (l1.length : Int) then (fD.l0 k l0 l1 0) else (some false)
theorem fD.calls {k c0 c1 : Nat} {A0 A1 : Option Addr} {l0 l1 : List ByteArray} {r : Bool} {w : World} (hr0 : Kd.C Kd.string w A0 l0.length l0) (hc0 : l0.length ≤ c0) (hr1 : Kd.C Kd.string w A1 l1.length l1) (hc1 : l1.length ≤ c1) (h : fD.f k l0 l1 = some r) :
  Calls Tryz.prog 22 #[.slice A0 l0.length c0, .slice A1 l1.length c1] w fun e w' => e = .returned (.bool r) ∧ dP w w' := by
 have HR0 := ak hr0
 have xE := ak hc0
 clear hr0 hc0
 have HR1 := ak hr1
 have HC1 := ak hc1
 clear hr1 hc1
 unfold fD.f at h; have H := h
 clear h
 replace H := sp H
 rcases H with ⟨c3, H⟩ | ⟨c3, H⟩
 ·
  have iO := beq_iff_eq.mpr c3
  have yK := bne_eq_false_iff_eq.mpr c3
  have abk : (l0.length == l1.length) = true := by first | simpa using c3 | (simp at c3 ⊢; omega)
  clear c3
  have H' := ak H; clear H
  go_enter Tryz.func22, Tryz.ntmps22
  go_wp2
  repeat (go_quiet (fail); try go_wp2)
  go_loopg [5] k (fun kq v5 w' => ∃ (dM : Int), v5 = .int .i64 dM ∧ ah (fD.l0 kq l0 l1 dM = some r) ∧ ah (kq ≤ k) ∧ dP w w')
  case atStart => exact ⟨_, rs, H', ⟨Nat.le_refl _⟩, dn⟩
  case round =>
   clear H'
   try clear c3
   try clear iO
   try clear yK
   try clear abk
   obtain ⟨dM, rfl, HA, xI, ⟨m1, rfl⟩⟩ := hrel
   cases gk with
   | zero => exact zz HA.out
   | succ k1 =>
    obtain ⟨H⟩ := HA
    simp only [fD.l0] at H
    replace H := sd H
    rcases H with ⟨qR, H⟩ | ⟨qR, H⟩
    ·
     replace H := oq H; obtain ⟨mW, H⟩ := H; replace H := oq H; obtain ⟨nN, H⟩ := H; replace H := sq H
     rcases H with ⟨rF, HY, H⟩ | ⟨c7, rF, HY, H⟩
     ·
      have H' := ak H; clear H
      have Xb := zi dM
      have Xc := zj dM l0.length
      obtain ⟨aoq, alf, af9⟩ := Kd.iU HR0.out dM Xb Xc
      cases alf
      replace Xb := eq_true Xb
      replace Xc := eq_true Xc
      have Xd := zi dM
      have Xe := zj dM l1.length
      obtain ⟨aor, alg, af_⟩ := Kd.iU HR1.out dM Xd Xe
      cases alg
      replace Xd := eq_true Xd
      replace Xe := eq_true Xe
      go_wp2
      repeat (go_quiet (fail); try go_wp2)
      go_roundg k1
      case measure => exact kl
      case rel => exact ⟨_, rs, H', ⟨kl⟩, dn⟩
     ·
      obtain rfl := s1 H
      have Xb := zi dM
      have Xc := zj dM l0.length
      obtain ⟨aoq, alf, af9⟩ := Kd.iU HR0.out dM Xb Xc
      cases alf
      replace Xb := eq_true Xb
      replace Xc := eq_true Xc
      have Xd := zi dM
      have Xe := zj dM l1.length
      obtain ⟨aor, alg, af_⟩ := Kd.iU HR1.out dM Xd Xe
      cases alg
      replace Xd := eq_true Xd
      replace Xe := eq_true Xe
      go_wp2
      repeat (go_quiet (fail); try go_wp2)
      go_ret
      exact ⟨rs, dn⟩
    ·
     obtain rfl := s1 H
     go_wp2
     repeat (go_quiet (fail); try go_wp2)
     go_ret
     exact ⟨rs, dn⟩
 ·
  have iO := beq_eq_false_iff_ne.mpr c3
  have yK := bne_iff_ne.mpr c3
  have abk : (l0.length == l1.length) = false := by first | simpa using c3 | (simp at c3 ⊢; omega)
  obtain rfl := s1 H
  go_enter Tryz.func22, Tryz.ntmps22
  go_wp2
  repeat (go_quiet (fail); try go_wp2)
  go_ret
  exact ⟨rs, dn⟩
/-- A state of type 109 at block g of W; what its slices lead to came in by w0. -/
def aN (w0 W : World) (g : Nat) (f0 : List Int) (f1 : Int) : Prop := ∃ A0 c0, W.heap[g]? = some (.cells #[.slice A0 f0.length c0, .int .i64 f1] 109 (0, 0)) ∧ w0.heap.size ≤ g ∧ Kd.C (Kd.int .u8) w0 A0 f0.length f0
theorem aN.grown {w0 W : World} {g : Nat} {f0 : List Int} {f1 : Int} {W1 : World} {row : Option Nat} (h : aN w0 W g f0 f1) (hw : W.grownBy W1 row) (hne : some g ≠ row) : aN w0 W1 g f0 f1 := by
 obtain ⟨A0, c0, hb, hg, hr0⟩ := h
 exact ⟨A0, c0, cZ hb hw hne, hg, hr0⟩
theorem aN.awc {w0 W : World} {g : Nat} {f0 : List Int} {f1 : Int} {α : Type} {d : Kd α} {e : Nat} {base : Nat} {ok : Nat → Prop} {v : Value} {xs : List α} (h : aN w0 W g f0 f1) (ho : Kd.N d e W base ok v xs) (ht : e ≠ 109) : some g ≠ v.ownBlock := by
 obtain ⟨A0, c0, hb, hg, hr0⟩ := h
 exact Kd.axp ho hb ht
theorem aN.fresh {w0 W : World} {g : Nat} {f0 : List Int} {f1 : Int} (h : aN w0 W g f0 f1) : ∀ k, W.heap.size ≤ k → k ≠ g := by
 obtain ⟨A0, c0, hb, hg, hr0⟩ := h
 exact Kd.xQ hb
theorem aN.kept {w0 W : World} {g : Nat} {f0 : List Int} {f1 : Int} {W1 : World} {S : Nat → Prop} (h : aN w0 W g f0 f1) (hk : Kept W W1 S) (hne : ¬ S g) : aN w0 W1 g f0 f1 := by
 obtain ⟨A0, c0, hb, hg, hr0⟩ := h
 exact ⟨A0, c0, acE hb hk hne, hg, hr0⟩
theorem aN.below {w0 W : World} {g : Nat} {f0 : List Int} {f1 : Int} {W1 : World} (h : aN w0 W g f0 f1) (hw : Below W.heap.size W W1) : aN w0 W1 g f0 f1 := h.grown (EI hw none) (by simp)
theorem aN.alloc {w0 W : World} {g : Nat} {f0 : List Int} {f1 : Int} (h : aN w0 W g f0 f1) (o : Obj) : aN w0 (W.alloc o) g f0 f1 := h.below (lW (Below.refl _ _) o)
theorem aN.drewN {w0 W : World} {g : Nat} {f0 : List Int} {f1 : Int} (h : aN w0 W g f0 f1) (m : Nat) : aN w0 (W.drewN m) g f0 f1 := h
theorem aN.drew {w0 W : World} {g : Nat} {f0 : List Int} {f1 : Int} (h : aN w0 W g f0 f1) : aN w0 W.drew g f0 f1 := h
theorem aN.at_ {w0 W : World} {g : Nat} {f0 : List Int} {f1 : Int} {w' : World} {m : Nat} (hq : W.drewN m = w') (h : aN w0 W g f0 f1) : aN w0 w' g f0 f1 := by subst hq; exact aN.drewN h m
theorem aN.apart {w0 W : World} {g : Nat} {f0 : List Int} {f1 : Int} {α : Type} {d : Kd α} {e : Nat} {base : Nat} {ok : Nat → Prop} {v : Value} {xs : List α} (h : aN w0 W g f0 f1) (ho : d.R e W base ok v xs) (ht : ∀ q, q ∈ e :: d.E → q ≠ 109) : d.R e W base (fun k => ok k ∧ k ≠ g) v xs := by
 obtain ⟨A0, c0, hb, hg, hr0⟩ := h
 exact Kd.lV ho hb ht
theorem aN.own_ne {w0 W : World} {g : Nat} {f0 : List Int} {f1 : Int} {α : Type} {d : Kd α} {e : Nat} {base : Nat} {ok : Nat → Prop} {v : Value} {xs : List α} (h : aN w0 W g f0 f1) (ho : d.R e W base ok v xs) (ht : e ≠ 109) : some g ≠ v.ownBlock := by
 obtain ⟨A0, c0, hb, hg, hr0⟩ := h
 exact Kd.oG ho hb ht
theorem aN.axq {w0 W : World} {g : Nat} {f0 : List Int} {f1 : Int} {α : Type} {d : Kd α} {e : Nat} {base : Nat} {ok : Nat → Prop} {v : Value} {xs : List α} (h : aN w0 W g f0 f1) (ho : d.Q e W base ok v xs) (ht : ∀ q, q ∈ e :: d.E → q ≠ 109) : d.Q e W base (fun k => ok k ∧ k ≠ g) v xs := by
 obtain ⟨A0, c0, hb, hg, hr0⟩ := h
 exact Kd.aga ho hb ht
theorem aN.awd {w0 W : World} {g : Nat} {f0 : List Int} {f1 : Int} {α : Type} {d : Kd α} {e : Nat} {base : Nat} {ok : Nat → Prop} {v : Value} {xs : List α} (h : aN w0 W g f0 f1) (ho : d.Q e W base ok v xs) (ht : e ≠ 109) : some g ≠ v.ownBlock := by
 obtain ⟨A0, c0, hb, hg, hr0⟩ := h
 exact Kd.axr ho hb ht
theorem aN.axt {w0 W : World} {g : Nat} {f0 : List Int} {f1 : Int} {α : Type} {d : Kd α} {e : Nat} {base : Nat} {ok : Nat → Prop} {v : Value} {xs : List α} (h : aN w0 W g f0 f1) (ho : d.S e W base ok v xs) (ht : ∀ q, q ∈ e :: d.E → q ≠ 109) : d.S e W base (fun k => ok k ∧ k ≠ g) v xs := by
 obtain ⟨A0, c0, hb, hg, hr0⟩ := h
 exact Kd.S_ ho hb ht
theorem aN.awe {w0 W : World} {g : Nat} {f0 : List Int} {f1 : Int} {α : Type} {d : Kd α} {e : Nat} {base : Nat} {ok : Nat → Prop} {v : Value} {xs : List α} (h : aN w0 W g f0 f1) (ho : d.S e W base ok v xs) (ht : e ≠ 109) : some g ≠ v.ownBlock := by
 obtain ⟨A0, c0, hb, hg, hr0⟩ := h
 exact Kd.agb ho hb ht
theorem aN.lt {w0 W : World} {g : Nat} {f0 : List Int} {f1 : Int} (h : aN w0 W g f0 f1) : g < W.heap.size := by
 obtain ⟨A0, c0, hb, hg, hr0⟩ := h
 exact wQ hb
theorem aN.ge {w0 W : World} {g : Nat} {f0 : List Int} {f1 : Int} (h : aN w0 W g f0 f1) : w0.heap.size ≤ g := by
 obtain ⟨A0, c0, hb, hg, hr0⟩ := h
 exact hg
theorem aN.acF {w0 W : World} {g : Nat} {f0 : List Int} {f1 : Int} {a : Nat} {cs : Array Value} {t : TypeId} {fr : Nat × Nat} (h : aN w0 W g f0 f1) (hb2 : W.heap[a]? = some (.cells cs t fr)) (ht : t ≠ 109) : g ≠ a := by
 obtain ⟨A0, c0, hb, hg, hr0⟩ := h
 rintro rfl
 rw [hb] at hb2
 injection hb2 with hb2
 injection hb2 with _ ht2
 exact ht ht2.symm
theorem aN.far {w0 W : World} {g : Nat} {f0 : List Int} {f1 : Int} {p : Addr} (h : aN w0 W g f0 f1) (hne : g ≠ p.block) (u : Value) : aN w0 (W.setCell p u) g f0 f1 := by
 obtain ⟨A0, c0, hb, hg, hr0⟩ := h
 exact ⟨A0, c0, IV hb hne u, hg, hr0⟩
theorem Dj {W : World} {g : Nat} {A0 : Option Addr} {c0 : Nat} {f0 : List Int} {f1 : Int} (h : W.heap[g]? = some (.cells #[.slice A0 f0.length c0, .int .i64 f1] 109 (0, 0))) : W.cell? ⟨g, 0, none⟩ = some (.slice A0 f0.length c0) := (aA h 0).trans rfl
theorem Dk {W : World} {g : Nat} {A0 : Option Addr} {c0 : Nat} {f0 : List Int} {f1 : Int} (h : W.heap[g]? = some (.cells #[.slice A0 f0.length c0, .int .i64 f1] 109 (0, 0))) : W.cell? ⟨g, 1, none⟩ = some (.int .i64 f1) := (aA h 1).trans rfl
theorem aN.aos {w0 W : World} {g : Nat} {f0 : List Int} {f1 : Int} (h : aN w0 W g f0 f1) (x : Int) : aN w0 (W.setCell ⟨g, 1, none⟩ (.int .i64 x)) g f0 x := by
 obtain ⟨A0, c0, hb, hg, hr0⟩ := h
 exact ⟨A0, c0, by simpa using Tc hb 1 (.int .i64 x), hg, hr0⟩
theorem aN.new (w0 W : World) (A0 : Option Addr) (c0 : Nat) (f0 : List Int) (f1 : Int) (hB : Below w0.heap.size w0 W) (hr0 : Kd.C (Kd.int .u8) w0 A0 f0.length f0) : aN w0 (W.alloc (.cells #[.slice A0 f0.length c0, .int .i64 f1] 109)) W.heap.size f0 f1 := ⟨A0, c0, by simpa using heap_alloc_new W _, hB.size, hr0⟩
/-! words on the state -/
theorem oI {p : Prop} (h : p := by repeat (first | (with_reducible first | exact ah.out (by assumption) | apply aN.alloc | apply aN.drewN | apply aN.drew | apply aN.aos | refine aN.far ?_ (ah.out (by assumption)) _) | exact ah.out (by assumption))) : p := h
theorem oJ {p : Prop} (h : p := by repeat (first | (with_reducible first | exact ah.out (by assumption) | apply lW | apply oL | apply fQ | refine zQ ?_ (aN.ge (ah.out (by assumption))) | refine zQ ?_ (ah.out (by assumption))) | exact ah.out (by assumption))) : p := h
theorem bS {P : Program} {ops : Array Oper} {o : Oper} {rest : List Oper} {a : Act} {Q : Exit → Act → World → Prop} {w0 w W c1 c2 c3 : World} {g : Nat} {f0 : List Int} {f1 f2 : Int} (_HI : ah (aN w0 c1 g f0 f1)) (_HK : ah (aJ w c2 g none)) (_HB : ah (Below w0.heap.size w0 c3)) (HW : ah (w0.heap.size ≤ w.heap.size)) (N : Nat) (cs : Array Value) (t : TypeId)
  (h : ∀ b w1, ah (w1.heap[b]? = some (.cells cs t (0, 0))) → ah (w.heap.size ≤ b) → ah (w0.heap.size ≤ b) → ah (g ≠ b) → ah (b ≠ g) → b = W.heap.size → Below W.heap.size W w1 → ah (aN w0 w1 g f0 f2) → ah (aJ w w1 g none) → ah (Below w0.heap.size w0 w1) → wpList P ops Q rest (a.put o.dst (.pointer (some ⟨b, 0, none⟩))) w1)
  (hd : o.dst = some N := by with_reducible rfl) (hg : o.guard = none := by with_reducible rfl) (hr : (execOp a.eval o).run P W = .ok (.value (.pointer (some ⟨W.heap.size, 0, none⟩))) (W.alloc (.cells cs t (0, 0))) := by first | (go_simp; done) | (go_simp; rfl)) (hI : aN w0 W g f0 f2 := by exact oI) (hK : aJ w W g none := by exact kk) (hB : Below w0.heap.size w0 W := by exact oJ) : wpList P ops Q (o :: rest) a W :=
 bE N cs t (fun b hb w1 h1 hw => h b w1 ⟨h1⟩ ⟨by rw [hb]; exact dG hK⟩ ⟨Nat.le_trans HW.out (by rw [hb]; exact dG hK)⟩ ⟨by rw [hb]; exact Nat.ne_of_lt hI.lt⟩ ⟨by rw [hb]; exact Nat.ne_of_gt hI.lt⟩ hb hw ⟨hI.below hw⟩ ⟨hK.trans (aJ.of_below hw g none) (.inl rfl)⟩ ⟨iD hB hw⟩) hd hg hr
theorem ki {α : Type} {d : Kd α} {e base : Nat} {ok : Nat → Prop} {v : Value} {xs : List α} {w0 a b c : World} {g : Nat} {f0 : List Int} {f1 : Int} (_old : ah (Kd.R d e a base ok v xs)) (hk : aJ b c g none) (hI : aN w0 b g f0 f1 := by exact oI) (h : Kd.R d e b base ok v xs := by exact rr) (ht : ∀ q, q ∈ e :: d.E → q ≠ 109 := by decide) : ah (Kd.R d e c base ok v xs) := ⟨Kd.aY (Kd.H6 (hI.apart h ht) hk (fun _ h => h.2)) (fun _ h => h.1)⟩
theorem kj {α β : Type} {d : Kd α} {e base : Nat} {ok : Nat → Prop} {v : Value} {xs : List α} {w0 a b c : World} {g : Nat} {f0 : List Int} {f1 : Int} {d' : Kd β} {e' : Nat} {ok' : Nat → Prop} {v' : Value} {ys : List β} (_old : ah (Kd.R d e a base ok v xs)) (hk : aJ b c g none) (ho : Kd.R d' e' c b.heap.size ok' v' ys) (hI : aN w0 b g f0 f1 := by exact oI) (h : Kd.R d e b base ok v xs := by exact rr) (ht : ∀ q, q ∈ e :: d.E → q ≠ 109 := by decide) : ah (Kd.R d e c base (fun k => ok k ∧ some k ≠ v'.ownBlock) v xs) := ⟨Kd.aY (Kd.sS (Kd.Td (hI.apart h ht) hk) (Kd.bZ ho)) (fun _ h => h.1)⟩
def sU.f (l0 : List Int) : Option (List Int × Int) := if (l0.length : Int) > 2000 then (if 2000 ≤ (l0.length : Int) then (some (l0.take 2000, 0)) else (none)) else (some (l0, 0))
theorem sU.calls {A0 : Option Addr} {c0 : Nat} {l0 r1 : List Int} {r2 : Int} {w : World} (w0 : World) (hB : Below w0.heap.size w0 w) (hr0 : Kd.C (Kd.int .u8) w0 A0 l0.length l0) (hc0 : l0.length ≤ c0) (h : sU.f l0 = some (r1, r2)) :
  Calls Tryz.prog 55 #[.slice A0 l0.length c0] w fun e w' => ∃ g_ : Nat, e = .returned (.pointer (some ⟨g_, 0, none⟩)) ∧ aN w0 w' g_ r1 r2 ∧ Below w0.heap.size w0 w' ∧ Below w.heap.size w w' := by
 have aAy := Tryz.underlying109
 have HR0 := ak hr0
 have xE := ak hc0
 clear hr0 hc0
 have HBW := ak (Below.refl w.heap.size w)
 have HW0 := ak hB.size
 have HB := ak hB
 clear hB
 unfold sU.f at h; have H := h
 clear h
 replace H := sp H
 rcases H with ⟨c2, H⟩ | ⟨c2, H⟩
 ·
  have ou : decide (2000 < (l0.length : Int)) = true := decide_eq_true c2
  have vK : decide (2000 < l0.length) = true := decide_eq_true (by omega)
  clear c2
  replace H := yL H; obtain ⟨iO, yK, H⟩ := H
  obtain ⟨rfl, rfl⟩ := s2 H
  obtain ⟨i04, aot, _, aou, _⟩ := info_parts info5
  obtain ⟨aAz, hA4, hC4⟩ := QH (P := Tryz.prog) (Value.int .u8) 0 22 5 .i64 Tryz.underlying22 aot aou A0 c0 l0 2000 (by omega) (of_decide_eq_true (by assumption)) xE.out
  have aov := ak (Kd.H7 (h1 := fun _ => rfl) (hA4 _ (Kd.Dl HR0.out)))
  have aAA := ak hC4
  clear hA4 hC4 aot aou
  go_enter Tryz.func55, Tryz.ntmps55
  go_wp2_with (refine bE 10 #[.slice A0 (l0.take 2000).length c0, .int .i64 0] 109 ?_; intro acG hg w5 hbox hb; have aow := ak (hbox); have aAB := ge_ HBW hg; have aox := ak ((Nat.le_trans HW0.out (by rw [hg]; exact (aj (ul HBW.out)) : w.heap.size ≤ acG) : w0.heap.size ≤ acG)); replace HBW := ak (iD HBW.out hb); replace HB := bs HB hb; clear hb hbox hg)
  go_ret
  exact ⟨_, rfl, (show aN w0 _ acG (l0.take 2000) 0 from ⟨_, _, ub aow.out, aox.out, aov.out⟩), oJ, bh HBW.out⟩
 ·
  have ou : decide (2000 < (l0.length : Int)) = false := decide_eq_false c2
  have vK : decide (2000 < l0.length) = false := decide_eq_false (by omega)
  clear c2
  obtain ⟨rfl, rfl⟩ := s2 H
  go_enter Tryz.func55, Tryz.ntmps55
  go_wp2_with (refine bE 10 #[.slice A0 l0.length c0, .int .i64 0] 109 ?_; intro xJ hg w6 hbox hb; have GU := ak (hbox); have aoo := ge_ HBW hg; have aoy := ak ((Nat.le_trans HW0.out (by rw [hg]; exact (aj (ul HBW.out)) : w.heap.size ≤ xJ) : w0.heap.size ≤ xJ)); replace HBW := ak (iD HBW.out hb); replace HB := bs HB hb; clear hb hbox hg)
  go_ret
  exact ⟨_, rfl, (show aN w0 _ xJ l0 0 from ⟨_, _, ub GU.out, aoy.out, HR0.out⟩), oJ, bh HBW.out⟩
def b_.j0 : Nat → Int → Bool → List Int → Int → Option (Int × Int)
 | 0, _, _, _, _ => none
 | k + 1, x1, x24, x1000, oC => if x24 = true then (some (0, oC)) else (if (wrap64 (oC - 1)) < (x1000.length : Int) then (if 0 ≤ (wrap64 (oC - 1)) then (if x1 = 0 then (none) else (some (Int.tmod (wrap64 (rd x1000 (wrap64 (oC - 1)))) x1, oC))) else (none)) else (if (x1000.length : Int) = 0 then (none) else (if 0 ≤ (Int.tmod (wrap64 (oC - 1)) (x1000.length : Int)) then (if (Int.tmod (wrap64 (oC - 1)) (x1000.length : Int)) < (x1000.length : Int) then (if 0 ≤ (Int.tmod (wrap64 ((wrap64 ((wrap64 (oC - 1)) * 7)) + 3)) (x1000.length : Int)) then (if (Int.tmod (wrap64 ((wrap64 ((wrap64 (oC - 1)) * 7)) + 3)) (x1000.length : Int)) < (x1000.length : Int) then (if x1 = 0 then (none) else (some (Int.tmod (Go.bits .xor .i64 (wrap64 ((wrap64 ((wrap64 ((wrap64 ((wrap64 (rd x1000 (Int.tmod (wrap64 (oC - 1)) (x1000.length : Int)))) * 131)) + (wrap64 ((wrap64 (rd x1000 (Int.tmod (wrap64 ((wrap64 ((wrap64 (oC - 1)) * 7)) + 3)) (x1000.length : Int)))) * 1117)))) + (wrap64 ((wrap64 (oC - 1)) * 29)))) + (wrap64 ((wrap64 (Int.tdiv (wrap64 (oC - 1)) (x1000.length : Int))) * 53)))) (wrap64 (Int.tdiv (wrap64 ((wrap64 ((wrap64 ((wrap64 ((wrap64 (rd x1000 (Int.tmod (wrap64 (oC - 1)) (x1000.length : Int)))) * 131)) + (wrap64 ((wrap64 (rd x1000 (Int.tmod (wrap64 ((wrap64 ((wrap64 (oC - 1)) * 7)) + 3)) (x1000.length : Int)))) * 1117)))) + (wrap64 ((wrap64 (oC - 1)) * 29)))) + (wrap64 ((wrap64 (Int.tdiv (wrap64 (oC - 1)) (x1000.length : Int))) * 53)))) 64))) x1, oC))) else (none)) else (none)) else (none)) else (none))))
def b_.f (k : Nat) (fB : List Int) (ku : Int) (a1 : Int) : Option (Int × Int) := if a1 < 1 then (b_.j0 k a1 true fB (wrap64 (ku + 1))) else (b_.j0 k a1 ((fB.length : Int) == 0) fB (wrap64 (ku + 1)))
theorem b_.calls {k g : Nat} {fB : List Int} {ku a1 r1 r2 : Int} {w : World} (w0 : World) (hI : aN w0 w g fB ku) (hB : Below w0.heap.size w0 w) (h : b_.f k fB ku a1 = some (r1, r2)) :
  Calls Tryz.prog 57 #[.pointer (some ⟨g, 0, none⟩), .int .i64 a1] w fun e w' => e = .returned (.int .i64 r1) ∧ aN w0 w' g fB r2 ∧ Below w0.heap.size w0 w' ∧ aJ w w' g none := by
 have HI0 := ak hI
 have HK := ak (aJ.refl w g none)
 have HL := ak hB.size
 clear hI
 have HW0 := ak hB.size
 have HB := ak hB
 clear hB
 unfold b_.f at h; have H := h
 clear h
 have OU := ak H
 clear H
 obtain ⟨axu, axv, agc, axw, axx⟩ := HI0.out
 have acH := Dj agc
 have alh := Dk agc
 have ali := gY agc 1
 clear agc axw
 go_enter Tryz.func57, Tryz.ntmps57
 go_upto_region 2 with (fail)
 repeat (go_quiet (fail); go_upto_region 2 with (fail))
 go_cut [24] (fun v24 wc => ∃ (kq : Nat) (lM : Bool), v24 = .bool lM ∧ ah (b_.j0 kq a1 lM fB (wrap64 (ku + 1)) = some (r1, r2)) ∧ ah (kq ≤ k) ∧ ah (aN w0 wc g fB (wrap64 (ku + 1))) ∧ ah (aJ w wc g none) ∧ ah (Below w0.heap.size w0 wc))
 case first =>
  have H := OU.out
  clear OU
  replace H := sd H
  rcases H with ⟨mW, H⟩ | ⟨mW, H⟩
  ·
   (first | rw [mW] | (simp only [iK, jI]; rw [mW]) | skip)
   have H' := ak H; clear H
   go_wp2
   repeat (go_quiet (fail); try go_wp2)
   go_meet
   case rel => exact ⟨_, _, rs, H', ⟨IL⟩, ⟨oI⟩, ⟨kh HK.out⟩, ⟨oJ⟩⟩
  ·
   (first | rw [mW] | (simp only [iK, jI]; rw [mW]) | skip)
   have H' := ak H; clear H
   obtain ⟨axy, axz, agd, axA, axB⟩ := HI0.out
   have axC := Dj agd
   have axD := Dk agd
   have axE := gY agd 1
   clear agd axA
   go_wp2
   repeat (go_quiet (fail); try go_wp2)
   go_meet
   case rel => exact ⟨_, _, rs, H', ⟨IL⟩, ⟨oI⟩, ⟨kh HK.out⟩, ⟨oJ⟩⟩
 case rest =>
  clear OU
  try clear acH
  try clear alh
  try clear ali
  obtain ⟨kq, lM, rfl, HA, HJ2, HI0, HK, HB⟩ := hcut
  cases kq with
  | zero => exact zz HA.out
  | succ YD =>
   obtain ⟨H⟩ := HA
   simp only [b_.j0] at H
   replace H := sb H
   rcases H with ⟨rfl, H⟩ | ⟨rfl, H⟩
   ·
    obtain ⟨rfl, rfl⟩ := s2 H
    go_wp2
    repeat (go_quiet (fail); try go_wp2)
    go_ret
    exact ⟨er, oI, oJ, kh HK.out⟩
   ·
    replace H := sp H
    rcases H with ⟨c8, H⟩ | ⟨c8, H⟩
    ·
     have tX := decide_eq_true c8
     (try (have Eu : decide (((wrap64 (ku + 1)) - 1) < (fB.length : Int)) = true := decide_eq_true (by have h_ := c8; unfold wrap64 at h_; omega)))
     clear c8
     obtain ⟨OV, H8⟩ : ∃ j_ : Int, (wrap64 ((wrap64 (ku + 1)) - 1)) = j_ := ⟨_, rfl⟩
     replace H : (if 0 ≤ (OV) then (if a1 = 0 then (none) else (some (Int.tmod (wrap64 (rd fB (OV))) a1, (wrap64 (ku + 1))))) else (none)) = some (r1, r2) := by first | (rw [H8] at H; exact H) | (simp only [H8] at H ⊢; exact H)
     (try rw [H8] at tX)
     have ahU : (IntKind.i64.wrap ((wrap64 (ku + 1)) - 1)) = OV := (iK _).trans H8
     replace H := oq H; obtain ⟨nY, H⟩ := H; replace H := sp H
     rcases H with ⟨c11, H⟩ | ⟨c11, H⟩
     ·
      exact absurd H (by simp)
     ·
      have t_ := beq_eq_false_iff_ne.mpr c11
      have D7 := bne_iff_ne.mpr c11
      obtain ⟨rfl, rfl⟩ := s2 H
      obtain ⟨awf, awg, YE, aoz, agf⟩ := HI0.out
      have agh := Dj YE
      have awh := Dk YE
      have awi := gY YE 1
      clear YE aoz
      have alj := zi (OV)
      have alk := zj (OV) fB.length
      obtain ⟨aAC, axF, YF⟩ := Kd.Tf agf (OV) alj alk
      cases axF
      replace YF := rG HB.out YF
      replace alj := eq_true alj
      replace alk := eq_true alk
      go_wp2
      repeat (go_quiet (fail); try go_wp2)
      go_ret
      exact ⟨by first | rfl | (simp [rV, rW] <;> rfl) | (simp only [← H8]; first | rfl | (simp [rV, rW] <;> rfl)) | (simp [*, rV, rW] <;> rfl), oI, oJ, kh HK.out⟩
    ·
     have tX := decide_eq_false c8
     (try (have Eu : decide (((wrap64 (ku + 1)) - 1) < (fB.length : Int)) = false := decide_eq_false (by have h_ := c8; unfold wrap64 at h_; omega)))
     clear c8
     replace H := sp H
     rcases H with ⟨c13, H⟩ | ⟨c13, H⟩
     ·
      exact absurd H (by simp)
     ·
      have vw := beq_eq_false_iff_ne.mpr c13
      have zy := bne_iff_ne.mpr c13
      have ahV : ¬ (fB = []) := fun h_ => c13 (by rw [h_]; rfl)
      obtain ⟨IW, IX⟩ : ∃ j_ : Int, (Int.tmod (wrap64 ((wrap64 (ku + 1)) - 1)) (fB.length : Int)) = j_ := ⟨_, rfl⟩
      replace H : (if 0 ≤ (IW) then (if (IW) < (fB.length : Int) then (if 0 ≤ (Int.tmod (wrap64 ((wrap64 ((wrap64 ((wrap64 (ku + 1)) - 1)) * 7)) + 3)) (fB.length : Int)) then (if (Int.tmod (wrap64 ((wrap64 ((wrap64 ((wrap64 (ku + 1)) - 1)) * 7)) + 3)) (fB.length : Int)) < (fB.length : Int) then (if a1 = 0 then (none) else (some (Int.tmod (Go.bits .xor .i64 (wrap64 ((wrap64 ((wrap64 ((wrap64 ((wrap64 (rd fB (IW))) * 131)) + (wrap64 ((wrap64 (rd fB (Int.tmod (wrap64 ((wrap64 ((wrap64 ((wrap64 (ku + 1)) - 1)) * 7)) + 3)) (fB.length : Int)))) * 1117)))) + (wrap64 ((wrap64 ((wrap64 (ku + 1)) - 1)) * 29)))) + (wrap64 ((wrap64 (Int.tdiv (wrap64 ((wrap64 (ku + 1)) - 1)) (fB.length : Int))) * 53)))) (wrap64 (Int.tdiv (wrap64 ((wrap64 ((wrap64 ((wrap64 ((wrap64 (rd fB (IW))) * 131)) + (wrap64 ((wrap64 (rd fB (Int.tmod (wrap64 ((wrap64 ((wrap64 ((wrap64 (ku + 1)) - 1)) * 7)) + 3)) (fB.length : Int)))) * 1117)))) + (wrap64 ((wrap64 ((wrap64 (ku + 1)) - 1)) * 29)))) + (wrap64 ((wrap64 (Int.tdiv (wrap64 ((wrap64 (ku + 1)) - 1)) (fB.length : Int))) * 53)))) 64))) a1, (wrap64 (ku + 1))))) else (none)) else (none)) else (none)) else (none)) = some (r1, r2) := by first | (rw [IX] at H; exact H) | (simp only [IX] at H ⊢; exact H)
      replace H := oq H; obtain ⟨vC, H⟩ := H; replace H := oq H; obtain ⟨zA, H⟩ := H
      obtain ⟨Xf, acI⟩ : ∃ j_ : Int, (Int.tmod (wrap64 ((wrap64 ((wrap64 ((wrap64 (ku + 1)) - 1)) * 7)) + 3)) (fB.length : Int)) = j_ := ⟨_, rfl⟩
      replace H : (if 0 ≤ (Xf) then (if (Xf) < (fB.length : Int) then (if a1 = 0 then (none) else (some (Int.tmod (Go.bits .xor .i64 (wrap64 ((wrap64 ((wrap64 ((wrap64 ((wrap64 (rd fB (IW))) * 131)) + (wrap64 ((wrap64 (rd fB (Xf))) * 1117)))) + (wrap64 ((wrap64 ((wrap64 (ku + 1)) - 1)) * 29)))) + (wrap64 ((wrap64 (Int.tdiv (wrap64 ((wrap64 (ku + 1)) - 1)) (fB.length : Int))) * 53)))) (wrap64 (Int.tdiv (wrap64 ((wrap64 ((wrap64 ((wrap64 ((wrap64 (rd fB (IW))) * 131)) + (wrap64 ((wrap64 (rd fB (Xf))) * 1117)))) + (wrap64 ((wrap64 ((wrap64 (ku + 1)) - 1)) * 29)))) + (wrap64 ((wrap64 (Int.tdiv (wrap64 ((wrap64 (ku + 1)) - 1)) (fB.length : Int))) * 53)))) 64))) a1, (wrap64 (ku + 1))))) else (none)) else (none)) = some (r1, r2) := by first | (rw [acI] at H; exact H) | (simp only [acI] at H ⊢; exact H)
      replace H := oq H; obtain ⟨vF, H⟩ := H; replace H := oq H; obtain ⟨z_, H⟩ := H; replace H := sp H
      rcases H with ⟨c20, H⟩ | ⟨c20, H⟩
      ·
       exact absurd H (by simp)
      ·
       have Q_ := beq_eq_false_iff_ne.mpr c20
       have U7 := bne_iff_ne.mpr c20
       obtain ⟨rfl, rfl⟩ := s2 H
       obtain ⟨awj, awk, YG, aoA, YH⟩ := HI0.out
       have awl := Dj YG
       have awm := Dk YG
       have awn := gY YG 1
       clear YG aoA
       have alm := zi (IW)
       have aln := zj (IW) fB.length
       obtain ⟨aoB, axG, YI⟩ := Kd.Tf YH (IW) alm aln
       cases axG
       replace YI := rG HB.out YI
       replace alm := eq_true alm
       replace aln := eq_true aln
       have alo := zi (Xf)
       have alp := zj (Xf) fB.length
       obtain ⟨aoC, e108, YJ⟩ := Kd.Tf YH (Xf) alo alp
       obtain rfl : aoB = aoC := (by injection e108)
       replace YJ := rG HB.out YJ
       replace alo := eq_true alo
       replace alp := eq_true alp
       go_wp2
       repeat (go_quiet (fail); try go_wp2)
       go_ret
       exact ⟨by first | rfl | (simp [rV, rW] <;> rfl) | (simp only [← IX, ← acI]; first | rfl | (simp [rV, rW] <;> rfl)) | (simp [*, rV, rW] <;> rfl), oI, oJ, kh HK.out⟩
def fH.f (k : Nat) (fB : List Int) (ku : Int) (l1 : List ByteArray) : Option (ByteArray × Int) := (b_.f k fB ku (l1.length : Int)).bind fun YK => (if 0 ≤ YK.1 then (if YK.1 < (l1.length : Int) then (some (mX ByteArray.empty l1 YK.1, YK.2)) else (none)) else (none))
theorem fH.calls {k g c1 : Nat} {fB : List Int} {ku r2 : Int} {A1 : Option Addr} {l1 : List ByteArray} {r1 : ByteArray} {w : World} (w0 : World) (hI : aN w0 w g fB ku) (hB : Below w0.heap.size w0 w) (hr1 : Kd.C Kd.string w A1 l1.length l1) (hc1 : l1.length ≤ c1) (hf1 : ∀ ad, A1 = some ad → 0 < l1.length → ad.block ≠ g) (h : fH.f k fB ku l1 = some (r1, r2)) :
  Calls Tryz.prog 58 #[.pointer (some ⟨g, 0, none⟩), .slice A1 l1.length c1] w fun e w' => e = .returned (.string r1) ∧ aN w0 w' g fB r2 ∧ Below w0.heap.size w0 w' ∧ aJ w w' g none := by
 have HR1 := ak hr1
 have HC1 := ak hc1
 clear hr1 hc1
 have HI0 := ak hI
 have HK := ak (aJ.refl w g none)
 have HL := ak hB.size
 clear hI
 have HW0 := ak hB.size
 have HB := ak hB
 clear hB
 unfold fH.f at h; have H := h
 clear h
 replace H := bd H
 obtain ⟨⟨t109, aDn⟩, A3, H⟩ := H
 (try dsimp only at H)
 replace H := oq H; obtain ⟨qR, H⟩ := H; replace H := oq H; obtain ⟨mW, H⟩ := H
 obtain ⟨rfl, rfl⟩ := s2 H
 go_enter Tryz.func58, Tryz.ntmps58
 go_wp2_with (refine gL 57 9 Tryz.func57 #[.pointer (some ⟨g, 0, none⟩), .int .i64 (l1.length : Int)] ?_; (with_reducible refine (b_.calls w0 ?fZ ?jc A3.out).mono ?_); (case fZ => exact oI); (case jc => exact oJ); rintro e w6 ⟨rfl, hi, hb, hk⟩; refine ⟨_, rfl, ?_⟩; replace HK := kt HK hk; replace HB := ak (hb); replace HI0 := ak (hi); clear hb; (try clear hk); (try clear hi); have alq : 0 ≤ (t109 : Int) := of_decide_eq_true (by assumption); have alr : t109 < (l1.length : Int) := of_decide_eq_true (by assumption); obtain ⟨aoD, axH, YL⟩ := Kd.iU HR1.out t109 alq alr; cases axH; replace YL := FZ HK.out YL (by first | (rw [add_block]; exact hf1 _ rfl (by omega)) | exact hf1 _ rfl (by omega) | exact hf1 aoD rfl (by omega)); replace alq := eq_true alq; replace alr := eq_true alr)
 go_ret
 exact ⟨er, oI, oJ, kh HK.out⟩
def jY.f (k : Nat) (fB : List Int) (ku : Int) (l1 : List Int) : Option (Int × Int) := (b_.f k fB ku (l1.length : Int)).bind fun YM => (if 0 ≤ YM.1 then (if YM.1 < (l1.length : Int) then (some (rd l1 YM.1, YM.2)) else (none)) else (none))
theorem jY.calls {k g c1 : Nat} {fB l1 : List Int} {ku r1 r2 : Int} {A1 : Option Addr} {w : World} (w0 : World) (hI : aN w0 w g fB ku) (hB : Below w0.heap.size w0 w) (hr1 : Kd.C (Kd.int .i64) w A1 l1.length l1) (hc1 : l1.length ≤ c1) (hf1 : ∀ ad, A1 = some ad → 0 < l1.length → ad.block ≠ g) (h : jY.f k fB ku l1 = some (r1, r2)) :
  Calls Tryz.prog 97 #[.pointer (some ⟨g, 0, none⟩), .slice A1 l1.length c1] w fun e w' => e = .returned (.int .i64 r1) ∧ aN w0 w' g fB r2 ∧ Below w0.heap.size w0 w' ∧ aJ w w' g none := by
 have HR1 := ak hr1
 have HC1 := ak hc1
 clear hr1 hc1
 have HI0 := ak hI
 have HK := ak (aJ.refl w g none)
 have HL := ak hB.size
 clear hI
 have HW0 := ak hB.size
 have HB := ak hB
 clear hB
 unfold jY.f at h; have H := h
 clear h
 replace H := bd H
 obtain ⟨⟨SX, aDo⟩, A3, H⟩ := H
 (try dsimp only at H)
 replace H := oq H; obtain ⟨qR, H⟩ := H; replace H := oq H; obtain ⟨mW, H⟩ := H
 obtain ⟨rfl, rfl⟩ := s2 H
 go_enter Tryz.func97, Tryz.ntmps97
 go_wp2_with (refine gL 57 9 Tryz.func57 #[.pointer (some ⟨g, 0, none⟩), .int .i64 (l1.length : Int)] ?_; (with_reducible refine (b_.calls w0 ?fZ ?jc A3.out).mono ?_); (case fZ => exact oI); (case jc => exact oJ); rintro e w6 ⟨rfl, hi, hb, hk⟩; refine ⟨_, rfl, ?_⟩; replace HK := kt HK hk; replace HB := ak (hb); replace HI0 := ak (hi); clear hb; (try clear hk); (try clear hi); have als : 0 ≤ (SX : Int) := of_decide_eq_true (by assumption); have alu : SX < (l1.length : Int) := of_decide_eq_true (by assumption); obtain ⟨aoE, axI, YN⟩ := Kd.Tf HR1.out SX als alu; cases axI; replace YN := FZ HK.out YN (by first | (rw [add_block]; exact hf1 _ rfl (by omega)) | exact hf1 _ rfl (by omega) | exact hf1 aoE rfl (by omega)); replace als := eq_true als; replace alu := eq_true alu)
 go_ret
 exact ⟨er, oI, oJ, kh HK.out⟩
mutual
def aQ.l0 : Nat → ByteArray → Int → Option (Bool)
 | 0, _, _ => none
 | k + 1, x0, x3 => if x3 < (x0.size : Int) then (aQ.j1 k x0 x3 (decide (x3 ≤ 200))) else (aQ.j1 k x0 x3 false)
def aQ.j1 : Nat → ByteArray → Int → Bool → Option (Bool)
 | 0, _, _, _ => none
 | k + 1, x0, x3, x11 => if x11 = true then (if 0 ≤ x3 then (if x3 < (x0.size : Int) then (if (bt x0 x3) < 32 then (some false) else (if (bt x0 x3) > 126 then (some false) else (aQ.l0 k x0 (wrap64 (x3 + 1))))) else (none)) else (none)) else (some (decide ((x0.size : Int) ≤ 200)))
end
def aQ.f (k : Nat) (a0 : ByteArray) : Option (Bool) := aQ.l0 k a0 0
theorem aQ.calls {k : Nat} {a0 : ByteArray} {r : Bool} {w : World} (h : aQ.f k a0 = some r) :
  Calls Tryz.prog 159 #[.string a0] w fun e w' => e = .returned (.bool r) ∧ dP w w' := by
 unfold aQ.f at h; have H := h
 clear h
 have H' := ak H; clear H
 go_enter Tryz.func159, Tryz.ntmps159
 go_wp2
 go_loopg [3] k (fun kq v3 w' => ∃ (dW : Int), v3 = .int .i64 dW ∧ ah (aQ.l0 kq a0 dW = some r) ∧ ah (kq ≤ k) ∧ dP w w')
 case atStart => exact ⟨_, rs, H', ⟨Nat.le_refl _⟩, dn⟩
 case round =>
  clear H'
  obtain ⟨dW, rfl, HA, xI, ⟨m1, rfl⟩⟩ := hrel
  cases gk with
  | zero => exact zz HA.out
  | succ k1 =>
   obtain ⟨H⟩ := HA
   simp only [aQ.l0] at H
   have HC2 := ak H
   clear H
   go_upto_region 2 with (fail)
   go_cut [11] (fun v11 wc => ∃ (kq : Nat) (uq : Bool), v11 = .bool uq ∧ ah (aQ.j1 kq a0 dW uq = some r) ∧ ah (kq ≤ k1) ∧ dP w wc)
   case first =>
    have H := HC2.out
    clear HC2
    replace H := sd H
    rcases H with ⟨iO, H⟩ | ⟨iO, H⟩
    ·
     (first | rw [iO] | (simp only [iK, jI]; rw [iO]) | skip)
     have H' := ak H; clear H
     go_wp2
     go_meet
     case rel => exact ⟨_, _, rs, H', ⟨kl⟩, dn⟩
    ·
     (first | rw [iO] | (simp only [iK, jI]; rw [iO]) | skip)
     have H' := ak H; clear H
     go_wp2
     go_meet
     case rel => exact ⟨_, _, rs, H', ⟨kl⟩, dn⟩
   case rest =>
    clear HC2
    obtain ⟨kq, uq, rfl, HA, HJ1, ⟨mc1, rfl⟩⟩ := hcut
    cases kq with
    | zero => exact zz HA.out
    | succ NK =>
     obtain ⟨H⟩ := HA
     simp only [aQ.j1] at H
     replace H := sb H
     rcases H with ⟨rfl, H⟩ | ⟨rfl, H⟩
     ·
      replace H := oq H; obtain ⟨mW, H⟩ := H; replace H := oq H; obtain ⟨nN, H⟩ := H; replace H := sd H
      rcases H with ⟨tX, H⟩ | ⟨tX, H⟩
      ·
       obtain rfl := s1 H
       obtain ⟨p7, q7, hx7⟩ := bx a0 dW
       go_wp2
       go_ret
       exact ⟨rs, dn⟩
      ·
       replace H := sp H
       rcases H with ⟨c10, H⟩ | ⟨c10, H⟩
       ·
        have nY : decide (126 < (bt a0 dW)) = true := decide_eq_true c10
        clear c10
        obtain rfl := s1 H
        obtain ⟨p7, q7, hx7⟩ := bx a0 dW
        obtain ⟨p9, q9, YO⟩ := bx a0 dW
        go_wp2
        go_ret
        exact ⟨rs, dn⟩
       ·
        have nY : decide (126 < (bt a0 dW)) = false := decide_eq_false c10
        clear c10
        have H' := ak H; clear H
        obtain ⟨p7, q7, hx7⟩ := bx a0 dW
        obtain ⟨p9, q9, YO⟩ := bx a0 dW
        go_wp2
        go_roundg NK
        case measure => exact kl
        case rel => exact ⟨_, rs, H', ⟨kl⟩, dn⟩
     ·
      obtain rfl := s1 H
      go_wp2
      go_ret
      exact ⟨rs, dn⟩
mutual
def iH.l0 : Nat → List ByteArray → Int → Option (Bool)
 | 0, _, _ => none
 | k + 1, x0, x3 => if x3 < (x0.length : Int) then (iH.j1 k x0 x3 (decide (x3 ≤ 30))) else (iH.j1 k x0 x3 false)
def iH.j1 : Nat → List ByteArray → Int → Bool → Option (Bool)
 | 0, _, _, _ => none
 | k + 1, x0, x3, x11 => if x11 = true then (if 0 ≤ x3 then (if x3 < (x0.length : Int) then ((aQ.f k (mX ByteArray.empty x0 x3)).bind fun t116 => (if t116 = true then (iH.l0 k x0 (wrap64 (x3 + 1))) else (some false))) else (none)) else (none)) else (some (decide ((x0.length : Int) ≤ 30)))
end
def iH.f (k : Nat) (l0 : List ByteArray) : Option (Bool) := iH.l0 k l0 0
theorem iH.calls {k c0 : Nat} {A0 : Option Addr} {l0 : List ByteArray} {r : Bool} {w : World} (hr0 : Kd.C Kd.string w A0 l0.length l0) (hc0 : l0.length ≤ c0) (h : iH.f k l0 = some r) :
  Calls Tryz.prog 114 #[.slice A0 l0.length c0] w fun e w' => e = .returned (.bool r) ∧ dP w w' := by
 have HR0 := ak hr0
 have xE := ak hc0
 clear hr0 hc0
 unfold iH.f at h; have H := h
 clear h
 have H' := ak H; clear H
 go_enter Tryz.func114, Tryz.ntmps114
 go_wp2
 go_loopg [3] k (fun kq v3 w' => ∃ (dW : Int), v3 = .int .i64 dW ∧ ah (iH.l0 kq l0 dW = some r) ∧ ah (kq ≤ k) ∧ dP w w')
 case atStart => exact ⟨_, rs, H', ⟨Nat.le_refl _⟩, dn⟩
 case round =>
  clear H'
  obtain ⟨dW, rfl, HA, xI, ⟨m1, rfl⟩⟩ := hrel
  cases gk with
  | zero => exact zz HA.out
  | succ k1 =>
   obtain ⟨H⟩ := HA
   simp only [iH.l0] at H
   have HC2 := ak H
   clear H
   go_upto_region 2 with (fail)
   go_cut [11] (fun v11 wc => ∃ (kq : Nat) (uq : Bool), v11 = .bool uq ∧ ah (iH.j1 kq l0 dW uq = some r) ∧ ah (kq ≤ k1) ∧ dP w wc)
   case first =>
    have H := HC2.out
    clear HC2
    replace H := sd H
    rcases H with ⟨iO, H⟩ | ⟨iO, H⟩
    ·
     (first | rw [iO] | (simp only [iK, jI]; rw [iO]) | skip)
     have H' := ak H; clear H
     go_wp2
     go_meet
     case rel => exact ⟨_, _, rs, H', ⟨kl⟩, dn⟩
    ·
     (first | rw [iO] | (simp only [iK, jI]; rw [iO]) | skip)
     have H' := ak H; clear H
     go_wp2
     go_meet
     case rel => exact ⟨_, _, rs, H', ⟨kl⟩, dn⟩
   case rest =>
    clear HC2
    obtain ⟨kq, uq, rfl, HA, HJ1, ⟨mc1, rfl⟩⟩ := hcut
    cases kq with
    | zero => exact zz HA.out
    | succ NK =>
     obtain ⟨H⟩ := HA
     simp only [iH.j1] at H
     replace H := sb H
     rcases H with ⟨rfl, H⟩ | ⟨rfl, H⟩
     ·
      replace H := oq H; obtain ⟨mW, H⟩ := H; replace H := oq H; obtain ⟨nN, H⟩ := H; replace H := bd H; obtain ⟨t116, A7, H⟩ := H; replace H := sb H
      rcases H with ⟨rfl, H⟩ | ⟨rfl, H⟩
      ·
       have H' := ak H; clear H
       have Xg := zi dW
       have Xh := zj dW l0.length
       obtain ⟨aoF, e115, agi⟩ := Kd.iU HR0.out dW Xg Xh
       cases e115
       replace Xg := eq_true Xg
       replace Xh := eq_true Xh
       go_wp2_with (refine gA Tryz.func159 (aQ.calls A7.out) ?_; intro nd)
       go_roundg NK
       case measure => exact kl
       case rel => exact ⟨_, rs, H', ⟨kl⟩, dn⟩
      ·
       obtain rfl := s1 H
       have Xg := zi dW
       have Xh := zj dW l0.length
       obtain ⟨aoF, e115, agi⟩ := Kd.iU HR0.out dW Xg Xh
       cases e115
       replace Xg := eq_true Xg
       replace Xh := eq_true Xh
       go_wp2_with (refine gA Tryz.func159 (aQ.calls A7.out) ?_; intro nd)
       go_ret
       exact ⟨rs, dn⟩
     ·
      obtain rfl := s1 H
      go_wp2
      go_ret
      exact ⟨rs, dn⟩
end Go.Proofs.YtncdadcmghglkaaGreatDoor.PFnPartLines
