/- Printed walks; conditions: those in each statement. -/
import Derived.Test.YtncdadcmghglkaaGreatDoorVFnCountPartsQt
import Derived.Test.YtncdadcmghglkaaGreatDoorVFnCountPartsYt
import Derived.Test.YtncdadcmghglkaaGreatDoorPFnCountPartsx0
import Derived.Test.YtncdadcmghglkaaGreatDoorPFnCountPartsx21
import Derived.Test.YtncdadcmghglkaaGreatDoorPFnCountPartsx22
-- short
-- dense
-- sq
-- sq2
namespace Go.Proofs.YtncdadcmghglkaaGreatDoor.PFnCountParts
open Go.RowKit Go.Proofs.YtncdadcmghglkaaGreatDoor.X Go.Proofs.YtncdadcmghglkaaGreatDoorW.bI Go.Proofs.YtncdadcmghglkaaGreatDoorW.gI Go.Proofs.YtncdadcmghglkaaGreatDoorW.iL
attribute [local go_sem] kN kP mF mG jB jC kQ kR   -- for this text's walks alone
set_option linter.unusedVariables false
set_option maxHeartbeats 8000000
set_option maxRecDepth 100000
set_option linter.unusedSimpArgs false
def jZ.l0 : Nat → ByteArray → Int → List ByteArray → Option (List ByteArray)
 | 0, _, _, _ => none
 | k + 1, x0, x1, x5 => if (x0.size : Int) > x1 then (if 0 ≤ x1 then (if x1 ≤ (x0.size : Int) then (if x5.length < 8796093022208 then (jZ.l0 k (x0.extract (x1 : Int).toNat x0.size) x1 (x5 ++ [x0.extract 0 (x1 : Int).toNat])) else (none)) else (none)) else (none)) else (if x5.length < 8796093022208 then (some (x5 ++ [x0])) else (none))
def jZ.f (k : Nat) (a0 : ByteArray) (a1 : Int) : Option (List ByteArray) := jZ.l0 k a0 a1 (([] : List ByteArray))
theorem jZ.calls {k : Nat} {a0 : ByteArray} {a1 : Int} {r : List ByteArray} {w : World} (h : jZ.f k a0 a1 = some r) :
  Calls Tryz.prog 219 #[.string a0, .int .i64 a1] w fun e w' => ∃ qj : Value, e = .returned (qj) ∧ Kd.R Kd.string 9 w' w.heap.size (fun _ => True) qj r ∧ Below w.heap.size w w' := by
 have HB := ak (Below.refl w.heap.size w)
 unfold jZ.f at h; have H := h
 clear h
 obtain ⟨aFo, ajF⟩ := nm ([] : List ByteArray)
 rw [← ajF.out] at H
 have H' := ak H; clear H
 go_enter Tryz.func219, Tryz.ntmps219
 go_wp2_with (refine GN 6 Kd.string 9 ajF ?_; intro aFp w3 Rl hb; have arS := ak (Kd.aA Rl (aj (ul HB.out))); replace HB := bs HB hb; clear hb Rl)
 go_loopg [0, 5] k (fun kq v0 v5 w' => ∃ (qP : ByteArray) (eH : List ByteArray), v0 = .string qP ∧ ah (jZ.l0 kq qP a1 eH = some r) ∧ ah (kq ≤ k) ∧ ah (Kd.R Kd.string 9 w' w.heap.size (fun _ => True) v5 eH) ∧ ah (Below w.heap.size w w'))
 case atStart => exact ⟨_, _, rs, H', ⟨Nat.le_refl _⟩, ⟨ur arS.out⟩, ⟨ul HB.out⟩⟩
 case round =>
  clear H'
  obtain ⟨qP, eH, rfl, HA, xu, qp, HB⟩ := hrel
  cases gk with
  | zero => exact zz HA.out
  | succ k1 =>
   obtain ⟨H⟩ := HA
   simp only [jZ.l0] at H
   replace H := sp H
   rcases H with ⟨c5, H⟩ | ⟨c5, H⟩
   ·
    have nR : decide (a1 < (qP.size : Int)) = true := decide_eq_true c5
    clear c5
    replace H := zK H; obtain ⟨nT, wF, H⟩ := H; replace H := zK H; obtain ⟨rY, Lc, H⟩ := H; replace H := nl H; obtain ⟨alp, H⟩ := H
    obtain ⟨aFq, ajG⟩ := nm (eH ++ [qP.extract 0 (a1 : Int).toNat])
    rw [← ajG.out] at H
    have xU := eq_true (of_decide_eq_true (by assumption) : 0 ≤ a1)
    have oC := eq_true (of_decide_eq_true (by assumption) : a1 ≤ (qP.size : Int))
    have H' := ak H; clear H
    go_wp2_with (at_builtin; refine aP 11 15 Kd.string 23 9 (.string ⟨#[]⟩) 16 Tryz.underlying23 info9 HB (ur qp.out) ajG (by have := alp.out; omega) ?_; intro aFr SN ho hb hg hat; have arT := ak (ho); replace HB := ak (hb); clear ho hb hg hat qp)
    go_roundg k1
    case measure => exact kl
    case rel => exact ⟨_, _, rs, H', ⟨kl⟩, ⟨ur arT.out⟩, ⟨ul HB.out⟩⟩
   ·
    have nR : decide (a1 < (qP.size : Int)) = false := decide_eq_false c5
    clear c5
    replace H := nl H; obtain ⟨VK, H⟩ := H
    obtain ⟨aFs, ajH⟩ := nm (eH ++ [qP])
    rw [← ajH.out] at H
    obtain rfl := s1 H
    go_wp2_with (at_builtin; refine aP 20 22 Kd.string 23 9 (.string ⟨#[]⟩) 16 Tryz.underlying23 info9 HB (ur qp.out) ajH (by have := VK.out; omega) ?_; intro aFt w13 ho hb hg hat; have arU := ak (ho); replace HB := ak (hb); clear ho hb hg hat qp)
    go_ret
    exact ⟨_, er, ur arU.out, ul HB.out⟩
def pq.f  : Option (ByteArray) := some (⟨#[65, 66, 67, 68, 69, 70, 71, 72, 73, 74, 75, 76, 77, 78, 79, 80, 81, 82, 83, 84, 85, 86, 87, 88, 89, 90, 97, 98, 99, 100, 101, 102, 103, 104, 105, 106, 107, 108, 109, 110, 111, 112, 113, 114, 115, 116, 117, 118, 119, 120, 121, 122, 48, 49, 50, 51, 52, 53, 54, 55, 56, 57, 43, 47]⟩ : ByteArray)
theorem pq.calls  (r : ByteArray) (w : World) (h : pq.f  = some r) :
  Calls Tryz.prog 222 #[] w fun e w' => e = .returned (.string r) ∧ dS w w' := by
 unfold pq.f at h; have H := h
 clear h
 obtain rfl := s1 H
 go_enter Tryz.func222, Tryz.ntmps222
 go_wp2
 go_ret
 exact ⟨rs, dn⟩
mutual
def bQ.l0 : Nat → ByteArray → ByteArray → Int → Option (ByteArray)
 | 0, _, _, _ => none
 | k + 1, x0, x3, x4 => if x4 < (x0.size : Int) then (if 0 ≤ x4 then (if (wrap64 (x4 + 1)) < (x0.size : Int) then (if 0 ≤ (wrap64 (x4 + 1)) then (bQ.j1 k x0 x3 x4 (wrap64 ((wrap64 ((wrap64 (bt x0 x4)) * 65536)) + (wrap64 ((wrap64 (bt x0 (wrap64 (x4 + 1)))) * 256))))) else (none)) else (bQ.j1 k x0 x3 x4 (wrap64 ((wrap64 (bt x0 x4)) * 65536)))) else (none)) else (some x3)
def bQ.j1 : Nat → ByteArray → ByteArray → Int → Int → Option (ByteArray)
 | 0, _, _, _, _ => none
 | k + 1, x0, x3, x4, x5 => if (wrap64 (x4 + 2)) < (x0.size : Int) then (if 0 ≤ (wrap64 (x4 + 2)) then (bQ.j2 k x0 x3 x4 (wrap64 (x5 + (wrap64 (bt x0 (wrap64 (x4 + 2))))))) else (none)) else (bQ.j2 k x0 x3 x4 x5)
def bQ.j2 : Nat → ByteArray → ByteArray → Int → Int → Option (ByteArray)
 | 0, _, _, _, _ => none
 | k + 1, x0, x3, x4, x5 => bQ.l1 k x0 x3 x4 x5 0
def bQ.l1 : Nat → ByteArray → ByteArray → Int → Int → Int → Option (ByteArray)
 | 0, _, _, _, _, _ => none
 | k + 1, x0, x3, x4, x5, x6 => if x6 < 4 then (if (wrap64 (x4 + x6)) > (x0.size : Int) then (if x3.size + 1 ≤ 9223372036854775807 then (bQ.l1 k x0 (x3 ++ (⟨#[61]⟩ : ByteArray)) x4 x5 (wrap64 (x6 + 1))) else (none)) else (if 0 ≤ (wrap64 (18 - (wrap64 (6 * x6)))) then ((pq.f).bind fun Ia => (if 0 ≤ (Go.bits .and .i64 (shr .i64 x5 (wrap64 (18 - (wrap64 (6 * x6))))) 63) then (if (Go.bits .and .i64 (shr .i64 x5 (wrap64 (18 - (wrap64 (6 * x6))))) 63) ≤ (wrap64 ((Go.bits .and .i64 (shr .i64 x5 (wrap64 (18 - (wrap64 (6 * x6))))) 63) + 1)) then (if (wrap64 ((Go.bits .and .i64 (shr .i64 x5 (wrap64 (18 - (wrap64 (6 * x6))))) 63) + 1)) ≤ (Ia.size : Int) then (if x3.size + (Ia.extract ((Go.bits .and .i64 (shr .i64 x5 (wrap64 (18 - (wrap64 (6 * x6))))) 63) : Int).toNat ((wrap64 ((Go.bits .and .i64 (shr .i64 x5 (wrap64 (18 - (wrap64 (6 * x6))))) 63) + 1)) : Int).toNat).size ≤ 9223372036854775807 then (bQ.l1 k x0 (x3 ++ (Ia.extract ((Go.bits .and .i64 (shr .i64 x5 (wrap64 (18 - (wrap64 (6 * x6))))) 63) : Int).toNat ((wrap64 ((Go.bits .and .i64 (shr .i64 x5 (wrap64 (18 - (wrap64 (6 * x6))))) 63) + 1)) : Int).toNat)) x4 x5 (wrap64 (x6 + 1))) else (none)) else (none)) else (none)) else (none))) else (none))) else (bQ.l0 k x0 x3 (wrap64 (x4 + 3)))
end
def bQ.f (k : Nat) (a0 : ByteArray) : Option (ByteArray) := bQ.l0 k a0 (⟨#[]⟩ : ByteArray) 0
theorem bQ.calls {k : Nat} {a0 r : ByteArray} {w : World} (h : bQ.f k a0 = some r) :
  Calls Tryz.prog 220 #[.string a0] w fun e w' => e = .returned (.string r) ∧ dS w w' := by
 unfold bQ.f at h; have H := h
 clear h
 have H' := ak H; clear H
 go_enter Tryz.func220, Tryz.ntmps220
 go_wp2
 go_loopg [3, 4] k (fun kq v3 v4 w' => ∃ (dM : ByteArray) (dW : Int), v3 = .string dM ∧ v4 = .int .i64 dW ∧ ah (bQ.l0 kq a0 dM dW = some r) ∧ ah (kq ≤ k) ∧ dS w w')
 case atStart => exact ⟨_, _, rs, rs, H', ⟨Nat.le_refl _⟩, dn⟩
 case round =>
  clear H'
  obtain ⟨dM, dW, rfl, rfl, HA, xu, ⟨m1, rfl⟩⟩ := hrel
  cases gk with
  | zero => exact zz HA.out
  | succ k1 =>
   obtain ⟨H⟩ := HA
   simp only [bQ.l0] at H
   replace H := sd H
   rcases H with ⟨oI, H⟩ | ⟨oI, H⟩
   ·
    replace H := oM H; obtain ⟨iQ, H⟩ := H
    have HC5 := ak H
    clear H
    obtain ⟨p4, q4, hx4⟩ := bx a0 dW
    go_upto_if 23 with (fail)
    go_cut [5] (fun v5 wc => ∃ (kq : Nat) (Vh : Int), v5 = .int .i64 Vh ∧ ah (bQ.j1 kq a0 dM dW Vh = some r) ∧ ah (kq ≤ k1) ∧ dS w wc)
    case first =>
     have H := HC5.out
     clear HC5
     replace H := sp H
     rcases H with ⟨c6, H⟩ | ⟨c6, H⟩
     ·
      have nT := decide_eq_true c6
      (try (have wF : decide ((dW + 1) < (a0.size : Int)) = true := decide_eq_true (by have h_ := c6; unfold wrap64 at h_; omega)))
      clear c6
      (first | rw [nT] | (simp only [dU, fU]; rw [nT]) | skip)
      obtain ⟨ji7, NK⟩ : ∃ j_ : Int, (wrap64 (dW + 1)) = j_ := ⟨_, rfl⟩
      replace H : (if 0 ≤ (ji7) then (bQ.j1 k1 a0 dM dW (wrap64 ((wrap64 ((wrap64 (bt a0 dW)) * 65536)) + (wrap64 ((wrap64 (bt a0 (ji7))) * 256))))) else (none)) = some r := by first | (rw [NK] at H; exact H) | (simp only [NK] at H ⊢; exact H)
      (try rw [NK] at nT)
      have aq_ : (IntKind.i64.wrap (dW + 1)) = ji7 := (dU _).trans NK
      replace H := oM H; obtain ⟨sH, H⟩ := H
      have H' := ak H; clear H
      obtain ⟨p9, q9, YQ⟩ := bx a0 (ji7)
      go_wp2
      go_meet
      case rel => exact ⟨_, _, (by first | rfl | (simp; done) | (simp only [← NK] <;> (first | rfl | simp)) | (simp [*]; done)), H', ⟨kl⟩, dn⟩
     ·
      have nT := decide_eq_false c6
      (try (have wF : decide ((dW + 1) < (a0.size : Int)) = false := decide_eq_false (by have h_ := c6; unfold wrap64 at h_; omega)))
      clear c6
      (first | rw [nT] | (simp only [dU, fU]; rw [nT]) | skip)
      have H' := ak H; clear H
      go_wp2
      go_meet
      case rel => exact ⟨_, _, rs, H', ⟨kl⟩, dn⟩
    case rest =>
     clear HC5
     try clear oI
     try clear iQ
     try clear p4
     try clear q4
     try clear hx4
     try clear p4
     try clear q4
     obtain ⟨kq, Vh, rfl, HA, HJ4, ⟨mc4, rfl⟩⟩ := hcut
     cases kq with
     | zero => exact zz HA.out
     | succ kj4 =>
      obtain ⟨H⟩ := HA
      simp only [bQ.j1] at H
      have amY := ak H
      clear H
      go_upto_if 36 with (fail)
      go_cut [5] (fun v5 wc => ∃ (kq : Nat) (E8 : Int), v5 = .int .i64 E8 ∧ ah (bQ.j2 kq a0 dM dW E8 = some r) ∧ ah (kq ≤ kj4) ∧ dS w wc)
      case first =>
       have H := amY.out
       clear amY
       replace H := sp H
       rcases H with ⟨c11, H⟩ | ⟨c11, H⟩
       ·
        have uH := decide_eq_true c11
        (try (have Ec : decide ((dW + 2) < (a0.size : Int)) = true := decide_eq_true (by have h_ := c11; unfold wrap64 at h_; omega)))
        clear c11
        (first | rw [uH] | (simp only [dU, fU]; rw [uH]) | skip)
        obtain ⟨NQ, Ef⟩ : ∃ j_ : Int, (wrap64 (dW + 2)) = j_ := ⟨_, rfl⟩
        replace H : (if 0 ≤ (NQ) then (bQ.j2 kj4 a0 dM dW (wrap64 (Vh + (wrap64 (bt a0 (NQ)))))) else (none)) = some r := by first | (rw [Ef] at H; exact H) | (simp only [Ef] at H ⊢; exact H)
        (try rw [Ef] at uH)
        have amZ : (IntKind.i64.wrap (dW + 2)) = NQ := (dU _).trans Ef
        replace H := oM H; obtain ⟨vS, H⟩ := H
        have H' := ak H; clear H
        obtain ⟨p14, q14, alL⟩ := bx a0 (NQ)
        go_wp2
        go_meet
        case rel => exact ⟨_, _, (by first | rfl | (simp; done) | (simp only [← Ef] <;> (first | rfl | simp)) | (simp [*]; done)), H', ⟨kl⟩, dn⟩
       ·
        have uH := decide_eq_false c11
        (try (have Ec : decide ((dW + 2) < (a0.size : Int)) = false := decide_eq_false (by have h_ := c11; unfold wrap64 at h_; omega)))
        clear c11
        (first | rw [uH] | (simp only [dU, fU]; rw [uH]) | skip)
        have H' := ak H; clear H
        go_wp2
        go_meet
        case rel => exact ⟨_, _, rs, H', ⟨kl⟩, dn⟩
      case rest =>
       clear amY
       try clear oI
       try clear iQ
       try clear p4
       try clear q4
       try clear hx4
       try clear p4
       try clear q4
       obtain ⟨kq, E8, rfl, HA, HJ9, ⟨mc9, rfl⟩⟩ := hcut
       cases kq with
       | zero => exact zz HA.out
       | succ kj9 =>
        obtain ⟨H⟩ := HA
        simp only [bQ.j2] at H
        have H' := ak H; clear H
        go_wp2
        go_loopg [3, 6] kj9 (fun kq v3 v6 w' => ∃ (QM : ByteArray) (Pq : Int), v3 = .string QM ∧ v6 = .int .i64 Pq ∧ ah (bQ.l1 kq a0 QM dW E8 Pq = some r) ∧ ah (kq ≤ kj9) ∧ dS w w')
        case atStart => exact ⟨_, _, rs, rs, H', ⟨Nat.le_refl _⟩, dn⟩
        case round =>
         clear H'
         try clear oI
         try clear iQ
         try clear p4
         try clear q4
         try clear hx4
         try clear p4
         try clear q4
         obtain ⟨QM, Pq, rfl, rfl, HA, HK4, ⟨m4, rfl⟩⟩ := hrel
         cases gk with
         | zero => exact zz HA.out
         | succ k4 =>
          obtain ⟨H⟩ := HA
          simp only [bQ.l1] at H
          replace H := sd H
          rcases H with ⟨vT, H⟩ | ⟨vT, H⟩
          ·
           replace H := sp H
           rcases H with ⟨c16, H⟩ | ⟨c16, H⟩
           ·
            have zD : decide ((a0.size : Int) < (wrap64 (dW + Pq))) = true := decide_eq_true c16
            replace H := nn H; obtain ⟨c17, H⟩ := H
            (try (have Jd : decide ((a0.size : Int) < (dW + Pq)) = true := decide_eq_true (by have h_ := c16; have h2_ := c17; unfold wrap64 at h_; omega)))
            clear c16
            have tq := eq_true c17
            have MJ := decide_eq_true c17
            try have arL : (9223372036854775807 < QM.size + 1) = False := eq_false (Nat.not_lt.2 c17)
            have H' := ak H; clear H
            go_wp2
            go_roundg k4
            case measure => exact kl
            case rel => exact ⟨_, _, rs, rs, H', ⟨kl⟩, dn⟩
           ·
            have zD : decide ((a0.size : Int) < (wrap64 (dW + Pq))) = false := decide_eq_false c16
            (try (have Jd : decide ((a0.size : Int) < (dW + Pq)) = false := decide_eq_false (by have h_ := c16; unfold wrap64 at h_; omega)))
            clear c16
            obtain ⟨Jz, adQ⟩ : ∃ j_ : Int, (wrap64 (18 - (wrap64 (6 * Pq)))) = j_ := ⟨_, rfl⟩
            replace H : (if 0 ≤ (Jz) then ((pq.f).bind fun Ia => (if 0 ≤ (Go.bits .and .i64 (shr .i64 E8 (Jz)) 63) then (if (Go.bits .and .i64 (shr .i64 E8 (Jz)) 63) ≤ (wrap64 ((Go.bits .and .i64 (shr .i64 E8 (Jz)) 63) + 1)) then (if (wrap64 ((Go.bits .and .i64 (shr .i64 E8 (Jz)) 63) + 1)) ≤ (Ia.size : Int) then (if QM.size + (Ia.extract ((Go.bits .and .i64 (shr .i64 E8 (Jz)) 63) : Int).toNat ((wrap64 ((Go.bits .and .i64 (shr .i64 E8 (Jz)) 63) + 1)) : Int).toNat).size ≤ 9223372036854775807 then (bQ.l1 k4 a0 (QM ++ (Ia.extract ((Go.bits .and .i64 (shr .i64 E8 (Jz)) 63) : Int).toNat ((wrap64 ((Go.bits .and .i64 (shr .i64 E8 (Jz)) 63) + 1)) : Int).toNat)) dW E8 (wrap64 (Pq + 1))) else (none)) else (none)) else (none)) else (none))) else (none)) = some r := by first | (rw [adQ] at H; exact H) | (simp only [adQ] at H ⊢; exact H)
            have ayc : (IntKind.i64.wrap (18 - (wrap64 (6 * Pq)))) = Jz := (dU _).trans adQ
            replace H := zK H; obtain ⟨z_, Ea, H⟩ := H
            obtain ⟨JA, VL⟩ : ∃ j_ : Int, (shr .i64 E8 (Jz)) = j_ := ⟨_, rfl⟩
            replace H : ((pq.f).bind fun Ia => (if 0 ≤ (Go.bits .and .i64 (JA) 63) then (if (Go.bits .and .i64 (JA) 63) ≤ (wrap64 ((Go.bits .and .i64 (JA) 63) + 1)) then (if (wrap64 ((Go.bits .and .i64 (JA) 63) + 1)) ≤ (Ia.size : Int) then (if QM.size + (Ia.extract ((Go.bits .and .i64 (JA) 63) : Int).toNat ((wrap64 ((Go.bits .and .i64 (JA) 63) + 1)) : Int).toNat).size ≤ 9223372036854775807 then (bQ.l1 k4 a0 (QM ++ (Ia.extract ((Go.bits .and .i64 (JA) 63) : Int).toNat ((wrap64 ((Go.bits .and .i64 (JA) 63) + 1)) : Int).toNat)) dW E8 (wrap64 (Pq + 1))) else (none)) else (none)) else (none)) else (none))) = some r := by first | (rw [VL] at H; exact H) | (simp only [VL] at H ⊢; exact H)
            have ayd : (E8 / 2 ^ min (Jz).toNat 64) = JA := VL
            have aye : (Jz) ≤ 64 → (E8 / 2 ^ (Jz).toNat) = JA := abN VL
            replace H := bd H; obtain ⟨Ia, A21, H⟩ := H; replace H := zK H; obtain ⟨EW, YS, H⟩ := H; replace H := nn H; obtain ⟨c23, H⟩ := H
            have Ae := eq_true c23
            have MR := decide_eq_true c23
            replace H := nn H; obtain ⟨c24, H⟩ := H
            have OV := eq_true c24
            have adt := decide_eq_true c24
            replace H := nn H; obtain ⟨c25, H⟩ := H
            have OW := eq_true c25
            have ac_ := decide_eq_true c25
            try have aBs : (9223372036854775807 < QM.size + ((Ia.extract ((Go.bits .and .i64 (JA) 63) : Int).toNat ((wrap64 ((Go.bits .and .i64 (JA) 63) + 1)) : Int).toNat).size)) = False := by have h_ := c25; simp only [ByteArray.size_append, ByteArray.size_extract] at h_; refine eq_false ?_; simp only [decide_eq_true_eq] at *; omega
            try have arV : (9223372036854775807 < QM.size + (Ia.extract ((Go.bits .and .i64 (JA) 63) : Int).toNat ((wrap64 ((Go.bits .and .i64 (JA) 63) + 1)) : Int).toNat).size) = False := eq_false (Nat.not_lt.2 c25)
            have H' := ak H; clear H
            go_wp2_with (refine gA Tryz.func222 (pq.calls  Ia _ A21.out) ?_; intro nd)
            go_roundg k4
            case measure => exact kl
            case rel => exact ⟨_, _, (by first | rfl | (simp; done) | (simp only [← VL] <;> (first | rfl | simp)) | (simp [*]; done)), rs, H', ⟨kl⟩, dn⟩
          ·
           have H' := ak H; clear H
           go_wp2
           go_roundg k4
           case measure => exact kl
           case rel => exact ⟨_, _, rs, rs, H', ⟨kl⟩, dn⟩
   ·
    obtain rfl := s1 H
    go_wp2
    go_ret
    exact ⟨rs, dn⟩
def lU.f (k : Nat) (a0 : ByteArray) : Option (List ByteArray × Bool) := if (a0.size : Int) > 300 then (some ((([] : List ByteArray)), false)) else ((bQ.f k a0).bind fun arW => ((jZ.f k arW 40).bind fun arX => (some (arX, true))))
theorem lU.calls {k : Nat} {a0 : ByteArray} {r1 : List ByteArray} {r2 : Bool} {w : World} (h : lU.f k a0 = some (r1, r2)) :
  Calls Tryz.prog 212 #[.string a0] w fun e w' => ∃ qj : Value, e = .returned (.tuple #[qj, .bool r2]) ∧ Kd.R Kd.string 9 w' w.heap.size (fun _ => True) qj r1 ∧ Below w.heap.size w w' := by
 have HB := ak (Below.refl w.heap.size w)
 unfold lU.f at h; have H := h
 clear h
 replace H := sp H
 rcases H with ⟨c2, H⟩ | ⟨c2, H⟩
 ·
  have oI : decide (300 < (a0.size : Int)) = true := decide_eq_true c2
  have uP : decide (300 < a0.size) = true := decide_eq_true (by omega)
  clear c2
  obtain ⟨aFu, ajI⟩ := nm ([] : List ByteArray)
  rw [← ajI.out] at H
  obtain ⟨rfl, rfl⟩ := s2 H
  go_enter Tryz.func212, Tryz.ntmps212
  go_wp2_with (refine GN 7 Kd.string 9 ajI ?_; intro aFv w3 Rl hb; have arY := ak (Kd.aA Rl (aj (ul HB.out))); replace HB := bs HB hb; clear hb Rl)
  go_ret2
  exact ⟨_, er, ur arY.out, ul HB.out⟩
 ·
  have oI : decide (300 < (a0.size : Int)) = false := decide_eq_false c2
  have uP : decide (300 < a0.size) = false := decide_eq_false (by omega)
  clear c2
  replace H := bd H; obtain ⟨arW, A5, H⟩ := H; replace H := bd H; obtain ⟨arX, A6, H⟩ := H
  obtain ⟨rfl, rfl⟩ := s2 H
  go_enter Tryz.func212, Tryz.ntmps212
  go_wp2_with (first | (refine gA Tryz.func220 (bQ.calls A5.out) ?_; intro nd) | (refine gV Tryz.func219 (jZ.calls A6.out) ?_; rintro aFw w7 ⟨ho0, hb⟩; have arZ := ak (Kd.aA ho0 (aj (ul HB.out))); replace HB := bs HB hb; clear hb; (try clear ho0)))
  go_ret2
  exact ⟨_, er, ur arZ.out, ul HB.out⟩
def jQ.l0 : Nat → List ByteArray → Int → Int → Option (Int)
 | 0, _, _, _ => none
 | k + 1, x0, x3, x4 => if x4 < (x0.length : Int) then (if 0 ≤ x4 then (jQ.l0 k x0 (wrap64 ((wrap64 (x3 + ((o8 ByteArray.empty x0 x4).size : Int))) + 1)) (wrap64 (x4 + 1))) else (none)) else (some x3)
def jQ.f (k : Nat) (l0 : List ByteArray) : Option (Int) := jQ.l0 k l0 0 0
theorem jQ.calls {k c0 : Nat} {A0 : Option Addr} {l0 : List ByteArray} {r : Int} {w : World} (hr0 : Kd.C Kd.string w A0 l0.length l0) (hc0 : l0.length ≤ c0) (h : jQ.f k l0 = some r) :
  Calls Tryz.prog 213 #[.slice A0 l0.length c0] w fun e w' => e = .returned (.int .i64 r) ∧ dS w w' := by
 have HR0 := ak hr0
 have xq := ak hc0
 clear hr0 hc0
 unfold jQ.f at h; have H := h
 clear h
 have H' := ak H; clear H
 go_enter Tryz.func213, Tryz.ntmps213
 go_wp2
 go_loopg [3, 4] k (fun kq v3 v4 w' => ∃ (dM : Int) (dW : Int), v3 = .int .i64 dM ∧ v4 = .int .i64 dW ∧ ah (jQ.l0 kq l0 dM dW = some r) ∧ ah (kq ≤ k) ∧ dS w w')
 case atStart => exact ⟨_, _, rs, rs, H', ⟨Nat.le_refl _⟩, dn⟩
 case round =>
  clear H'
  obtain ⟨dM, dW, rfl, rfl, HA, xu, ⟨m1, rfl⟩⟩ := hrel
  cases gk with
  | zero => exact zz HA.out
  | succ k1 =>
   obtain ⟨H⟩ := HA
   simp only [jQ.l0] at H
   replace H := sd H
   rcases H with ⟨oI, H⟩ | ⟨oI, H⟩
   ·
    replace H := oM H; obtain ⟨iQ, H⟩ := H
    have H' := ak H; clear H
    have am0 := zi dW
    have am1 := zj dW l0.length
    obtain ⟨aBt, ayf, avZ⟩ := Kd.kF HR0.out dW am0 am1
    cases ayf
    replace am0 := eq_true am0
    replace am1 := eq_true am1
    go_wp2
    go_roundg k1
    case measure => exact kl
    case rel => exact ⟨_, _, rs, rs, H', ⟨kl⟩, dn⟩
   ·
    obtain rfl := s1 H
    go_wp2
    go_ret
    exact ⟨rs, dn⟩
def lV.f (k : Nat) (a0 : ByteArray) : Option (Int × Bool) := if (a0.size : Int) > 300 then (some (0, false)) else ((iO.f k a0).bind fun ar0 => (if ar0.2 = true then (some (0, true)) else ((bg.f k a0).bind fun ar1 => ((lU.f k a0).bind fun ar2 => ((jQ.f k ar1.1).bind fun ar4 => ((jQ.f k ar2.1).bind fun ar5 => (if ar4 ≤ ar5 then (some (1, true)) else (some (2, true)))))))))
theorem lV.calls {k : Nat} {a0 : ByteArray} {r1 : Int} {r2 : Bool} {w : World} (h : lV.f k a0 = some (r1, r2)) :
  Calls Tryz.prog 195 #[.string a0] w fun e w' => e = .returned (.tuple #[.int .i64 r1, .bool r2]) ∧ Below w.heap.size w w' := by
 have HB := ak (Below.refl w.heap.size w)
 unfold lV.f at h; have H := h
 clear h
 replace H := sp H
 rcases H with ⟨c2, H⟩ | ⟨c2, H⟩
 ·
  have oI : decide (300 < (a0.size : Int)) = true := decide_eq_true c2
  have uP : decide (300 < a0.size) = true := decide_eq_true (by omega)
  clear c2
  obtain ⟨rfl, rfl⟩ := s2 H
  go_enter Tryz.func195, Tryz.ntmps195
  go_wp2
  go_ret2
  exact ⟨er, ul HB.out⟩
 ·
  have oI : decide (300 < (a0.size : Int)) = false := decide_eq_false c2
  have uP : decide (300 < a0.size) = false := decide_eq_false (by omega)
  clear c2
  replace H := bd H
  obtain ⟨⟨aFx, aFy⟩, A3, H⟩ := H
  (try dsimp only at H)
  replace H := sb H
  rcases H with ⟨rfl, H⟩ | ⟨rfl, H⟩
  ·
   obtain ⟨rfl, rfl⟩ := s2 H
   go_enter Tryz.func195, Tryz.ntmps195
   go_wp2_with (refine gV Tryz.func210 (iO.calls A3.out) ?_; rintro ar6 w5 ⟨ho0, hb⟩; have BA := ak (Kd.aA ho0 (aj (ul HB.out))); replace HB := bs HB hb; clear hb; (try clear ho0))
   go_ret2
   exact ⟨er, ul HB.out⟩
  ·
   replace H := bd H
   obtain ⟨⟨aFz, aFA⟩, A6, H⟩ := H
   (try dsimp only at H)
   replace H := bd H
   obtain ⟨⟨aFB, aFC⟩, A7, H⟩ := H
   (try dsimp only at H)
   replace H := bd H; obtain ⟨ar4, A8, H⟩ := H; replace H := bd H; obtain ⟨ar5, A9, H⟩ := H; replace H := sd H
   rcases H with ⟨oC, H⟩ | ⟨oC, H⟩
   ·
    obtain ⟨rfl, rfl⟩ := s2 H
    go_enter Tryz.func195, Tryz.ntmps195
    go_wp2_with (first | (refine gV Tryz.func210 (iO.calls A3.out) ?_; rintro ar6 SN ⟨ho0, hb⟩; have BA := ak (Kd.aA ho0 (aj (ul HB.out))); replace HB := bs HB hb; clear hb; (try clear ho0)) | (refine gV Tryz.func211 (bg.calls A6.out) ?_; rintro ayg w12 ⟨ho0, hb⟩; have CW := ak (Kd.aA (Kd.gU ho0 (Kd.kX (ur BA.out))) (aj (ul HB.out))); replace BA := ak (Kd.fV (ur BA.out) (Kd.fQ ho0) hb); replace HB := bs HB hb; clear hb; (try clear ho0)) | (refine gV Tryz.func212 (lU.calls A7.out) ?_; rintro ayh w13 ⟨ho0, hb⟩; have Pv := ak (Kd.aA (Kd.gU (Kd.gU ho0 (Kd.kX (ur BA.out))) (Kd.kX (ur CW.out))) (aj (ul HB.out))); replace BA := ak (Kd.fV (ur BA.out) (Kd.fQ ho0) hb); replace CW := ak (Kd.fV (ur CW.out) (Kd.fQ ho0) hb); replace HB := bs HB hb; clear hb; (try clear ho0); obtain ⟨QF, OM, SS⟩ := Kd.aN CW.out; subst SS) | (refine gA Tryz.func213 (jQ.calls (cu ((Kd.au CW.out).2.2)) ((Kd.au CW.out).2.1) A8.out) ?_; intro nd; obtain ⟨KP, KQ, SV⟩ := Kd.aN Pv.out; subst SV) | (refine gA Tryz.func213 (jQ.calls (cu ((Kd.au Pv.out).2.2)) ((Kd.au Pv.out).2.1) A9.out) ?_; intro nd))
    go_ret2
    exact ⟨er, ul HB.out⟩
   ·
    obtain ⟨rfl, rfl⟩ := s2 H
    go_enter Tryz.func195, Tryz.ntmps195
    go_wp2_with (first | (refine gV Tryz.func210 (iO.calls A3.out) ?_; rintro ar6 w16 ⟨ho0, hb⟩; have BA := ak (Kd.aA ho0 (aj (ul HB.out))); replace HB := bs HB hb; clear hb; (try clear ho0)) | (refine gV Tryz.func211 (bg.calls A6.out) ?_; rintro ayg w17 ⟨ho0, hb⟩; have CW := ak (Kd.aA (Kd.gU ho0 (Kd.kX (ur BA.out))) (aj (ul HB.out))); replace BA := ak (Kd.fV (ur BA.out) (Kd.fQ ho0) hb); replace HB := bs HB hb; clear hb; (try clear ho0)) | (refine gV Tryz.func212 (lU.calls A7.out) ?_; rintro ayh w18 ⟨ho0, hb⟩; have Pv := ak (Kd.aA (Kd.gU (Kd.gU ho0 (Kd.kX (ur BA.out))) (Kd.kX (ur CW.out))) (aj (ul HB.out))); replace BA := ak (Kd.fV (ur BA.out) (Kd.fQ ho0) hb); replace CW := ak (Kd.fV (ur CW.out) (Kd.fQ ho0) hb); replace HB := bs HB hb; clear hb; (try clear ho0); obtain ⟨aFD, aFE, ayi⟩ := Kd.aN CW.out; subst ayi) | (refine gA Tryz.func213 (jQ.calls (cu ((Kd.au CW.out).2.2)) ((Kd.au CW.out).2.1) A8.out) ?_; intro nd; obtain ⟨Px, Py, XI⟩ := Kd.aN Pv.out; subst XI) | (refine gA Tryz.func213 (jQ.calls (cu ((Kd.au Pv.out).2.2)) ((Kd.au Pv.out).2.1) A9.out) ?_; intro nd))
    go_ret2
    exact ⟨er, ul HB.out⟩
def jM.f (k : Nat) (a0 : ByteArray) (a1 : Int) : Option (List ByteArray × Bool) := if a1 = 0 then ((iO.f k a0).bind fun ajJ => (if ajJ.2 = true then (some (ajJ.1, true)) else (some ((([] : List ByteArray)), false)))) else (if a1 = 1 then ((bg.f k a0).bind fun ajK => (some (ajK.1, ajK.2))) else (if a1 = 2 then ((lU.f k a0).bind fun ajL => (some (ajL.1, ajL.2))) else (some ((([] : List ByteArray)), false))))
theorem jM.calls {k : Nat} {a0 : ByteArray} {a1 : Int} {r1 : List ByteArray} {r2 : Bool} {w : World} (h : jM.f k a0 a1 = some (r1, r2)) :
  Calls Tryz.prog 196 #[.string a0, .int .i64 a1] w fun e w' => ∃ qj : Value, e = .returned (.tuple #[qj, .bool r2]) ∧ Kd.R Kd.string 9 w' w.heap.size (fun _ => True) qj r1 ∧ Below w.heap.size w w' := by
 have HB := ak (Below.refl w.heap.size w)
 unfold jM.f at h; have H := h
 clear h
 replace H := sq H
 rcases H with ⟨iQ, zZ, H⟩ | ⟨c3, iQ, zZ, H⟩
 ·
  replace H := bd H
  obtain ⟨⟨aFF, aFG⟩, A4, H⟩ := H
  (try dsimp only at H)
  replace H := sb H
  rcases H with ⟨rfl, H⟩ | ⟨rfl, H⟩
  ·
   obtain ⟨rfl, rfl⟩ := s2 H
   go_enter Tryz.func196, Tryz.ntmps196
   go_wp2_with (refine gV Tryz.func210 (iO.calls A4.out) ?_; rintro ayj w6 ⟨ho0, hb⟩; have VN := ak (Kd.aA ho0 (aj (ul HB.out))); replace HB := bs HB hb; clear hb; (try clear ho0))
   go_ret2
   exact ⟨_, er, ur VN.out, ul HB.out⟩
  ·
   obtain ⟨aFH, ajM⟩ := nm ([] : List ByteArray)
   rw [← ajM.out] at H
   obtain ⟨rfl, rfl⟩ := s2 H
   go_enter Tryz.func196, Tryz.ntmps196
   go_wp2_with (first | (refine gV Tryz.func210 (iO.calls A4.out) ?_; rintro ayj w7 ⟨ho0, hb⟩; have VN := ak (Kd.aA ho0 (aj (ul HB.out))); replace HB := bs HB hb; clear hb; (try clear ho0)) | (refine GN 30 Kd.string 9 ajM ?_; intro aFI w8 ho9 hb; have ar7 := ak (Kd.aA (Kd.gU ho9 (Kd.kX (ur VN.out))) (aj (ul HB.out))); replace VN := ak (Kd.fV (ur VN.out) (Kd.fQ ho9) hb); replace HB := bs HB hb; clear hb ho9))
   go_ret2
   exact ⟨_, er, ur (Kd.aZ ar7.out (fun _ hk => trivial)), ul HB.out⟩
 ·
  replace H := sq H
  rcases H with ⟨oC, sK, H⟩ | ⟨c10, oC, sK, H⟩
  ·
   replace H := bd H
   obtain ⟨⟨aFJ, aFK⟩, YJ, H⟩ := H
   (try dsimp only at H)
   obtain ⟨rfl, rfl⟩ := s2 H
   go_enter Tryz.func196, Tryz.ntmps196
   go_wp2_with (refine gV Tryz.func211 (bg.calls YJ.out) ?_; rintro aFL w12 ⟨ho0, hb⟩; have ar8 := ak (Kd.aA ho0 (aj (ul HB.out))); replace HB := bs HB hb; clear hb; (try clear ho0))
   go_ret2
   exact ⟨_, er, ur ar8.out, ul HB.out⟩
  ·
   replace H := sq H
   rcases H with ⟨vS, zB, H⟩ | ⟨c13, vS, zB, H⟩
   ·
    replace H := bd H
    obtain ⟨⟨aFM, aFN⟩, A14, H⟩ := H
    (try dsimp only at H)
    obtain ⟨rfl, rfl⟩ := s2 H
    go_enter Tryz.func196, Tryz.ntmps196
    go_wp2_with (refine gV Tryz.func212 (lU.calls A14.out) ?_; rintro aFO w15 ⟨ho0, hb⟩; have ar9 := ak (Kd.aA ho0 (aj (ul HB.out))); replace HB := bs HB hb; clear hb; (try clear ho0))
    go_ret2
    exact ⟨_, er, ur ar9.out, ul HB.out⟩
   ·
    obtain ⟨aFP, ajN⟩ := nm ([] : List ByteArray)
    rw [← ajN.out] at H
    obtain ⟨rfl, rfl⟩ := s2 H
    go_enter Tryz.func196, Tryz.ntmps196
    go_wp2_with (refine GN 30 Kd.string 9 ajN ?_; intro aFQ w16 ar_ hb; have asa := ak (Kd.aA ar_ (aj (ul HB.out))); replace HB := bs HB hb; clear hb ar_)
    go_ret2
    exact ⟨_, er, ur asa.out, ul HB.out⟩
end Go.Proofs.YtncdadcmghglkaaGreatDoor.PFnCountParts
