/- Printed walks; conditions: those in each statement. -/
import Derived.Test.YtncdadcmghglkaaGreatDoorVFnPartLinesQt
import Derived.Test.YtncdadcmghglkaaGreatDoorVFnPartLinesYt
import Derived.Test.YtncdadcmghglkaaGreatDoorPFnPartLinesx0
import Derived.Test.YtncdadcmghglkaaGreatDoorPFnPartLinesx4
-- short
-- dense
-- sq
-- sq2
namespace Go.Proofs.YtncdadcmghglkaaGreatDoor.PFnPartLines
open Go.RowKit Go.Proofs.YtncdadcmghglkaaGreatDoor.X Go.Proofs.YtncdadcmghglkaaGreatDoorW.bI Go.Proofs.YtncdadcmghglkaaGreatDoorW.iy Go.Proofs.YtncdadcmghglkaaGreatDoorW.iZ
attribute [local go_sem] kZ lg nK nM jW jX lq lu   -- for this text's walks alone
set_option linter.unusedVariables false
set_option maxHeartbeats 8000000
set_option maxRecDepth 100000
set_option linter.unusedSimpArgs false
def jT.l0 : Nat → ByteArray → Int → List ByteArray → Option (List ByteArray)
 | 0, _, _, _ => none
 | k + 1, x0, x1, x5 => if (x0.size : Int) > x1 then (if 0 ≤ x1 then (if x1 ≤ (x0.size : Int) then (if x5.length < 8796093022208 then (jT.l0 k (x0.extract (x1 : Int).toNat x0.size) x1 (x5 ++ [x0.extract 0 (x1 : Int).toNat])) else (none)) else (none)) else (none)) else (if x5.length < 8796093022208 then (some (x5 ++ [x0])) else (none))
def jT.f (k : Nat) (a0 : ByteArray) (a1 : Int) : Option (List ByteArray) := jT.l0 k a0 a1 (([] : List ByteArray))
theorem jT.calls {k : Nat} {a0 : ByteArray} {a1 : Int} {r : List ByteArray} {w : World} (h : jT.f k a0 a1 = some r) :
  Calls Tryz.prog 219 #[.string a0, .int .i64 a1] w fun e w' => ∃ oV : Value, e = .returned (oV) ∧ Kd.R Kd.string 9 w' w.heap.size (fun _ => True) oV r ∧ Below w.heap.size w w' := by
 have HB := ak (Below.refl w.heap.size w)
 unfold jT.f at h; have H := h
 clear h
 obtain ⟨aHP, akq⟩ := nm ([] : List ByteArray)
 rw [← akq.out] at H
 have H' := ak H; clear H
 go_enter Tryz.func219, Tryz.ntmps219
 go_wp2_with (refine Gu 6 Kd.string 9 akq ?_; intro v203 w3 Ro hb; have auN := ak (Kd.aC Ro (aj (ul HB.out))); replace HB := bs HB hb; clear hb Ro)
 go_loopg [0, 5] k (fun kq v0 v5 w' => ∃ (qJ : ByteArray) (dM : List ByteArray), v0 = .string qJ ∧ ah (jT.l0 kq qJ a1 dM = some r) ∧ ah (kq ≤ k) ∧ ah (Kd.R Kd.string 9 w' w.heap.size (fun _ => True) v5 dM) ∧ ah (Below w.heap.size w w'))
 case atStart => exact ⟨_, _, rs, H', ⟨Nat.le_refl _⟩, ⟨ur auN.out⟩, ⟨ul HB.out⟩⟩
 case round =>
  clear H'
  obtain ⟨qJ, dM, rfl, HA, xI, qg, HB⟩ := hrel
  cases gk with
  | zero => exact zz HA.out
  | succ k1 =>
   obtain ⟨H⟩ := HA
   simp only [jT.l0] at H
   replace H := sp H
   rcases H with ⟨c5, H⟩ | ⟨c5, H⟩
   ·
    have mW : decide (a1 < (qJ.size : Int)) = true := decide_eq_true c5
    clear c5
    replace H := yL H; obtain ⟨nN, wR, H⟩ := H; replace H := yL H; obtain ⟨rF, HY, H⟩ := H; replace H := nl H; obtain ⟨alc, H⟩ := H
    obtain ⟨aHQ, akr⟩ := nm (dM ++ [qJ.extract 0 (a1 : Int).toNat])
    rw [← akr.out] at H
    have xY := eq_true (of_decide_eq_true (by assumption) : 0 ≤ a1)
    have nY := eq_true (of_decide_eq_true (by assumption) : a1 ≤ (qJ.size : Int))
    have H' := ak H; clear H
    go_wp2_with (at_builtin; refine aP 11 15 Kd.string 23 9 (.string ⟨#[]⟩) 16 Tryz.underlying23 info9 HB (ur qg.out) akr (by have := alc.out; omega) ?_; intro v206 U3 ho hb hg hat; have auO := ak (ho); replace HB := ak (hb); clear ho hb hg hat qg)
    go_roundg k1
    case measure => exact kl
    case rel => exact ⟨_, _, rs, H', ⟨kl⟩, ⟨ur auO.out⟩, ⟨ul HB.out⟩⟩
   ·
    have mW : decide (a1 < (qJ.size : Int)) = false := decide_eq_false c5
    clear c5
    replace H := nl H; obtain ⟨Vj, H⟩ := H
    obtain ⟨aHR, aks⟩ := nm (dM ++ [qJ])
    rw [← aks.out] at H
    obtain rfl := s1 H
    go_wp2_with (at_builtin; refine aP 20 22 Kd.string 23 9 (.string ⟨#[]⟩) 16 Tryz.underlying23 info9 HB (ur qg.out) aks (by have := Vj.out; omega) ?_; intro aHS w13 ho hb hg hat; have auP := ak (ho); replace HB := ak (hb); clear ho hb hg hat qg)
    go_ret
    exact ⟨_, er, ur auP.out, ul HB.out⟩
def oQ.f  : Option (ByteArray) := some (⟨#[65, 66, 67, 68, 69, 70, 71, 72, 73, 74, 75, 76, 77, 78, 79, 80, 81, 82, 83, 84, 85, 86, 87, 88, 89, 90, 97, 98, 99, 100, 101, 102, 103, 104, 105, 106, 107, 108, 109, 110, 111, 112, 113, 114, 115, 116, 117, 118, 119, 120, 121, 122, 48, 49, 50, 51, 52, 53, 54, 55, 56, 57, 43, 47]⟩ : ByteArray)
theorem oQ.calls  (r : ByteArray) (w : World) (h : oQ.f  = some r) :
  Calls Tryz.prog 222 #[] w fun e w' => e = .returned (.string r) ∧ dP w w' := by
 unfold oQ.f at h; have H := h
 clear h
 obtain rfl := s1 H
 go_enter Tryz.func222, Tryz.ntmps222
 go_wp2
 go_ret
 exact ⟨rs, dn⟩
mutual
def bM.l0 : Nat → ByteArray → ByteArray → Int → Option (ByteArray)
 | 0, _, _, _ => none
 | k + 1, x0, x3, x4 => if x4 < (x0.size : Int) then (if 0 ≤ x4 then (if (wrap64 (x4 + 1)) < (x0.size : Int) then (if 0 ≤ (wrap64 (x4 + 1)) then (bM.j1 k x0 x3 x4 (wrap64 ((wrap64 ((wrap64 (bt x0 x4)) * 65536)) + (wrap64 ((wrap64 (bt x0 (wrap64 (x4 + 1)))) * 256))))) else (none)) else (bM.j1 k x0 x3 x4 (wrap64 ((wrap64 (bt x0 x4)) * 65536)))) else (none)) else (some x3)
def bM.j1 : Nat → ByteArray → ByteArray → Int → Int → Option (ByteArray)
 | 0, _, _, _, _ => none
 | k + 1, x0, x3, x4, x5 => if (wrap64 (x4 + 2)) < (x0.size : Int) then (if 0 ≤ (wrap64 (x4 + 2)) then (bM.j2 k x0 x3 x4 (wrap64 (x5 + (wrap64 (bt x0 (wrap64 (x4 + 2))))))) else (none)) else (bM.j2 k x0 x3 x4 x5)
def bM.j2 : Nat → ByteArray → ByteArray → Int → Int → Option (ByteArray)
 | 0, _, _, _, _ => none
 | k + 1, x0, x3, x4, x5 => bM.l1 k x0 x3 x4 x5 0
def bM.l1 : Nat → ByteArray → ByteArray → Int → Int → Int → Option (ByteArray)
 | 0, _, _, _, _, _ => none
 | k + 1, x0, x3, x4, x5, x6 => if x6 < 4 then (if (wrap64 (x4 + x6)) > (x0.size : Int) then (if x3.size + 1 ≤ 9223372036854775807 then (bM.l1 k x0 (x3 ++ (⟨#[61]⟩ : ByteArray)) x4 x5 (wrap64 (x6 + 1))) else (none)) else (if 0 ≤ (wrap64 (18 - (wrap64 (6 * x6)))) then ((oQ.f).bind fun Ih => (if 0 ≤ (Go.bits .and .i64 (shr .i64 x5 (wrap64 (18 - (wrap64 (6 * x6))))) 63) then (if (Go.bits .and .i64 (shr .i64 x5 (wrap64 (18 - (wrap64 (6 * x6))))) 63) ≤ (wrap64 ((Go.bits .and .i64 (shr .i64 x5 (wrap64 (18 - (wrap64 (6 * x6))))) 63) + 1)) then (if (wrap64 ((Go.bits .and .i64 (shr .i64 x5 (wrap64 (18 - (wrap64 (6 * x6))))) 63) + 1)) ≤ (Ih.size : Int) then (if x3.size + (Ih.extract ((Go.bits .and .i64 (shr .i64 x5 (wrap64 (18 - (wrap64 (6 * x6))))) 63) : Int).toNat ((wrap64 ((Go.bits .and .i64 (shr .i64 x5 (wrap64 (18 - (wrap64 (6 * x6))))) 63) + 1)) : Int).toNat).size ≤ 9223372036854775807 then (bM.l1 k x0 (x3 ++ (Ih.extract ((Go.bits .and .i64 (shr .i64 x5 (wrap64 (18 - (wrap64 (6 * x6))))) 63) : Int).toNat ((wrap64 ((Go.bits .and .i64 (shr .i64 x5 (wrap64 (18 - (wrap64 (6 * x6))))) 63) + 1)) : Int).toNat)) x4 x5 (wrap64 (x6 + 1))) else (none)) else (none)) else (none)) else (none))) else (none))) else (bM.l0 k x0 x3 (wrap64 (x4 + 3)))
end
def bM.f (k : Nat) (a0 : ByteArray) : Option (ByteArray) := bM.l0 k a0 (⟨#[]⟩ : ByteArray) 0
theorem bM.calls {k : Nat} {a0 r : ByteArray} {w : World} (h : bM.f k a0 = some r) :
  Calls Tryz.prog 220 #[.string a0] w fun e w' => e = .returned (.string r) ∧ dP w w' := by
 unfold bM.f at h; have H := h
 clear h
 have H' := ak H; clear H
 go_enter Tryz.func220, Tryz.ntmps220
 go_wp2
 go_loopg [3, 4] k (fun kq v3 v4 w' => ∃ (dW : ByteArray) (eP : Int), v3 = .string dW ∧ v4 = .int .i64 eP ∧ ah (bM.l0 kq a0 dW eP = some r) ∧ ah (kq ≤ k) ∧ dP w w')
 case atStart => exact ⟨_, _, rs, rs, H', ⟨Nat.le_refl _⟩, dn⟩
 case round =>
  clear H'
  obtain ⟨dW, eP, rfl, rfl, HA, xI, ⟨m1, rfl⟩⟩ := hrel
  cases gk with
  | zero => exact zz HA.out
  | succ k1 =>
   obtain ⟨H⟩ := HA
   simp only [bM.l0] at H
   replace H := sd H
   rcases H with ⟨ou, H⟩ | ⟨ou, H⟩
   ·
    replace H := oq H; obtain ⟨iO, H⟩ := H
    have HC5 := ak H
    clear H
    obtain ⟨p4, q4, hx4⟩ := bx a0 eP
    go_upto_if 23 with (fail)
    go_cut [5] (fun v5 wc => ∃ (kq : Nat) (VF : Int), v5 = .int .i64 VF ∧ ah (bM.j1 kq a0 dW eP VF = some r) ∧ ah (kq ≤ k1) ∧ dP w wc)
    case first =>
     have H := HC5.out
     clear HC5
     replace H := sp H
     rcases H with ⟨c6, H⟩ | ⟨c6, H⟩
     ·
      have nN := decide_eq_true c6
      (try (have wR : decide ((eP + 1) < (a0.size : Int)) = true := decide_eq_true (by have h_ := c6; unfold wrap64 at h_; omega)))
      clear c6
      (first | rw [nN] | (simp only [iK, jI]; rw [nN]) | skip)
      obtain ⟨ji7, NU⟩ : ∃ j_ : Int, (wrap64 (eP + 1)) = j_ := ⟨_, rfl⟩
      replace H : (if 0 ≤ (ji7) then (bM.j1 k1 a0 dW eP (wrap64 ((wrap64 ((wrap64 (bt a0 eP)) * 65536)) + (wrap64 ((wrap64 (bt a0 (ji7))) * 256))))) else (none)) = some r := by first | (rw [NU] at H; exact H) | (simp only [NU] at H ⊢; exact H)
      (try rw [NU] at nN)
      have arz : (IntKind.i64.wrap (eP + 1)) = ji7 := (iK _).trans NU
      replace H := oq H; obtain ⟨tX, H⟩ := H
      have H' := ak H; clear H
      obtain ⟨p9, q9, YO⟩ := bx a0 (ji7)
      go_wp2
      go_meet
      case rel => exact ⟨_, _, (by first | rfl | (simp; done) | (simp only [← NU] <;> (first | rfl | simp)) | (simp [*]; done)), H', ⟨kl⟩, dn⟩
     ·
      have nN := decide_eq_false c6
      (try (have wR : decide ((eP + 1) < (a0.size : Int)) = false := decide_eq_false (by have h_ := c6; unfold wrap64 at h_; omega)))
      clear c6
      (first | rw [nN] | (simp only [iK, jI]; rw [nN]) | skip)
      have H' := ak H; clear H
      go_wp2
      go_meet
      case rel => exact ⟨_, _, rs, H', ⟨kl⟩, dn⟩
    case rest =>
     clear HC5
     try clear ou
     try clear iO
     try clear p4
     try clear q4
     try clear hx4
     try clear p4
     try clear q4
     obtain ⟨kq, VF, rfl, HA, HJ4, ⟨mc4, rfl⟩⟩ := hcut
     cases kq with
     | zero => exact zz HA.out
     | succ kj4 =>
      obtain ⟨H⟩ := HA
      simp only [bM.j1] at H
      have anE := ak H
      clear H
      go_upto_if 36 with (fail)
      go_cut [5] (fun v5 wc => ∃ (kq : Nat) (Fh : Int), v5 = .int .i64 Fh ∧ ah (bM.j2 kq a0 dW eP Fh = some r) ∧ ah (kq ≤ kj4) ∧ dP w wc)
      case first =>
       have H := anE.out
       clear anE
       replace H := sp H
       rcases H with ⟨c11, H⟩ | ⟨c11, H⟩
       ·
        have t_ := decide_eq_true c11
        (try (have D7 : decide ((eP + 2) < (a0.size : Int)) = true := decide_eq_true (by have h_ := c11; unfold wrap64 at h_; omega)))
        clear c11
        (first | rw [t_] | (simp only [iK, jI]; rw [t_]) | skip)
        obtain ⟨NQ, Ea⟩ : ∃ j_ : Int, (wrap64 (eP + 2)) = j_ := ⟨_, rfl⟩
        replace H : (if 0 ≤ (NQ) then (bM.j2 kj4 a0 dW eP (wrap64 (VF + (wrap64 (bt a0 (NQ)))))) else (none)) = some r := by first | (rw [Ea] at H; exact H) | (simp only [Ea] at H ⊢; exact H)
        (try rw [Ea] at t_)
        have alO : (IntKind.i64.wrap (eP + 2)) = NQ := (iK _).trans Ea
        replace H := oq H; obtain ⟨vw, H⟩ := H
        have H' := ak H; clear H
        obtain ⟨p14, q14, alR⟩ := bx a0 (NQ)
        go_wp2
        go_meet
        case rel => exact ⟨_, _, (by first | rfl | (simp; done) | (simp only [← Ea] <;> (first | rfl | simp)) | (simp [*]; done)), H', ⟨kl⟩, dn⟩
       ·
        have t_ := decide_eq_false c11
        (try (have D7 : decide ((eP + 2) < (a0.size : Int)) = false := decide_eq_false (by have h_ := c11; unfold wrap64 at h_; omega)))
        clear c11
        (first | rw [t_] | (simp only [iK, jI]; rw [t_]) | skip)
        have H' := ak H; clear H
        go_wp2
        go_meet
        case rel => exact ⟨_, _, rs, H', ⟨kl⟩, dn⟩
      case rest =>
       clear anE
       try clear ou
       try clear iO
       try clear p4
       try clear q4
       try clear hx4
       try clear p4
       try clear q4
       obtain ⟨kq, Fh, rfl, HA, HJ9, ⟨mc9, rfl⟩⟩ := hcut
       cases kq with
       | zero => exact zz HA.out
       | succ kj9 =>
        obtain ⟨H⟩ := HA
        simp only [bM.j2] at H
        have H' := ak H; clear H
        go_wp2
        go_loopg [3, 6] kj9 (fun kq v3 v6 w' => ∃ (QU : ByteArray) (PX : Int), v3 = .string QU ∧ v6 = .int .i64 PX ∧ ah (bM.l1 kq a0 QU eP Fh PX = some r) ∧ ah (kq ≤ kj9) ∧ dP w w')
        case atStart => exact ⟨_, _, rs, rs, H', ⟨Nat.le_refl _⟩, dn⟩
        case round =>
         clear H'
         try clear ou
         try clear iO
         try clear p4
         try clear q4
         try clear hx4
         try clear p4
         try clear q4
         obtain ⟨QU, PX, rfl, rfl, HA, HK4, ⟨m4, rfl⟩⟩ := hrel
         cases gk with
         | zero => exact zz HA.out
         | succ k4 =>
          obtain ⟨H⟩ := HA
          simp only [bM.l1] at H
          replace H := sd H
          rcases H with ⟨vC, H⟩ | ⟨vC, H⟩
          ·
           replace H := sp H
           rcases H with ⟨c16, H⟩ | ⟨c16, H⟩
           ·
            have zA : decide ((a0.size : Int) < (wrap64 (eP + PX))) = true := decide_eq_true c16
            replace H := nn H; obtain ⟨c17, H⟩ := H
            (try (have Jw : decide ((a0.size : Int) < (eP + PX)) = true := decide_eq_true (by have h_ := c16; have Y0 := c17; unfold wrap64 at h_; omega)))
            clear c16
            have sJ := eq_true c17
            have Nb := decide_eq_true c17
            try have auG : (9223372036854775807 < QU.size + 1) = False := eq_false (Nat.not_lt.2 c17)
            have H' := ak H; clear H
            go_wp2
            go_roundg k4
            case measure => exact kl
            case rel => exact ⟨_, _, rs, rs, H', ⟨kl⟩, dn⟩
           ·
            have zA : decide ((a0.size : Int) < (wrap64 (eP + PX))) = false := decide_eq_false c16
            (try (have Jw : decide ((a0.size : Int) < (eP + PX)) = false := decide_eq_false (by have h_ := c16; unfold wrap64 at h_; omega)))
            clear c16
            obtain ⟨JV, aeA⟩ : ∃ j_ : Int, (wrap64 (18 - (wrap64 (6 * PX)))) = j_ := ⟨_, rfl⟩
            replace H : (if 0 ≤ (JV) then ((oQ.f).bind fun Ih => (if 0 ≤ (Go.bits .and .i64 (shr .i64 Fh (JV)) 63) then (if (Go.bits .and .i64 (shr .i64 Fh (JV)) 63) ≤ (wrap64 ((Go.bits .and .i64 (shr .i64 Fh (JV)) 63) + 1)) then (if (wrap64 ((Go.bits .and .i64 (shr .i64 Fh (JV)) 63) + 1)) ≤ (Ih.size : Int) then (if QU.size + (Ih.extract ((Go.bits .and .i64 (shr .i64 Fh (JV)) 63) : Int).toNat ((wrap64 ((Go.bits .and .i64 (shr .i64 Fh (JV)) 63) + 1)) : Int).toNat).size ≤ 9223372036854775807 then (bM.l1 k4 a0 (QU ++ (Ih.extract ((Go.bits .and .i64 (shr .i64 Fh (JV)) 63) : Int).toNat ((wrap64 ((Go.bits .and .i64 (shr .i64 Fh (JV)) 63) + 1)) : Int).toNat)) eP Fh (wrap64 (PX + 1))) else (none)) else (none)) else (none)) else (none))) else (none)) = some r := by first | (rw [aeA] at H; exact H) | (simp only [aeA] at H ⊢; exact H)
            have azG : (IntKind.i64.wrap (18 - (wrap64 (6 * PX)))) = JV := (iK _).trans aeA
            replace H := yL H; obtain ⟨z_, Eb, H⟩ := H
            obtain ⟨JW, VZ⟩ : ∃ j_ : Int, (shr .i64 Fh (JV)) = j_ := ⟨_, rfl⟩
            replace H : ((oQ.f).bind fun Ih => (if 0 ≤ (Go.bits .and .i64 (JW) 63) then (if (Go.bits .and .i64 (JW) 63) ≤ (wrap64 ((Go.bits .and .i64 (JW) 63) + 1)) then (if (wrap64 ((Go.bits .and .i64 (JW) 63) + 1)) ≤ (Ih.size : Int) then (if QU.size + (Ih.extract ((Go.bits .and .i64 (JW) 63) : Int).toNat ((wrap64 ((Go.bits .and .i64 (JW) 63) + 1)) : Int).toNat).size ≤ 9223372036854775807 then (bM.l1 k4 a0 (QU ++ (Ih.extract ((Go.bits .and .i64 (JW) 63) : Int).toNat ((wrap64 ((Go.bits .and .i64 (JW) 63) + 1)) : Int).toNat)) eP Fh (wrap64 (PX + 1))) else (none)) else (none)) else (none)) else (none))) = some r := by first | (rw [VZ] at H; exact H) | (simp only [VZ] at H ⊢; exact H)
            have azH : (Fh / 2 ^ min (JV).toNat 64) = JW := VZ
            have azI : (JV) ≤ 64 → (Fh / 2 ^ (JV).toNat) = JW := abK VZ
            replace H := bd H; obtain ⟨Ih, A21, H⟩ := H; replace H := yL H; obtain ⟨ES, Za, H⟩ := H; replace H := nn H; obtain ⟨c23, H⟩ := H
            have Ad := eq_true c23
            have MQ := decide_eq_true c23
            replace H := nn H; obtain ⟨c24, H⟩ := H
            have Pm := eq_true c24
            have adv := decide_eq_true c24
            replace H := nn H; obtain ⟨c25, H⟩ := H
            have Pg := eq_true c25
            have adT := decide_eq_true c25
            try have aCz : (9223372036854775807 < QU.size + ((Ih.extract ((Go.bits .and .i64 (JW) 63) : Int).toNat ((wrap64 ((Go.bits .and .i64 (JW) 63) + 1)) : Int).toNat).size)) = False := by have h_ := c25; simp only [ByteArray.size_append, ByteArray.size_extract] at h_; refine eq_false ?_; simp only [decide_eq_true_eq] at *; omega
            try have arq : (9223372036854775807 < QU.size + (Ih.extract ((Go.bits .and .i64 (JW) 63) : Int).toNat ((wrap64 ((Go.bits .and .i64 (JW) 63) + 1)) : Int).toNat).size) = False := eq_false (Nat.not_lt.2 c25)
            have H' := ak H; clear H
            go_wp2_with (refine gA Tryz.func222 (oQ.calls  Ih _ A21.out) ?_; intro nd)
            go_roundg k4
            case measure => exact kl
            case rel => exact ⟨_, _, (by first | rfl | (simp; done) | (simp only [← VZ] <;> (first | rfl | simp)) | (simp [*]; done)), rs, H', ⟨kl⟩, dn⟩
          ·
           have H' := ak H; clear H
           go_wp2
           go_roundg k4
           case measure => exact kl
           case rel => exact ⟨_, _, rs, rs, H', ⟨kl⟩, dn⟩
   ·
    obtain rfl := s1 H
    go_wp2
    go_ret
    exact ⟨rs, dn⟩
def lI.f (k : Nat) (a0 : ByteArray) : Option (List ByteArray × Bool) := if (a0.size : Int) > 300 then (some ((([] : List ByteArray)), false)) else ((bM.f k a0).bind fun auQ => ((jT.f k auQ 40).bind fun auR => (some (auR, true))))
theorem lI.calls {k : Nat} {a0 : ByteArray} {r1 : List ByteArray} {r2 : Bool} {w : World} (h : lI.f k a0 = some (r1, r2)) :
  Calls Tryz.prog 212 #[.string a0] w fun e w' => ∃ oV : Value, e = .returned (.tuple #[oV, .bool r2]) ∧ Kd.R Kd.string 9 w' w.heap.size (fun _ => True) oV r1 ∧ Below w.heap.size w w' := by
 have HB := ak (Below.refl w.heap.size w)
 unfold lI.f at h; have H := h
 clear h
 replace H := sp H
 rcases H with ⟨c2, H⟩ | ⟨c2, H⟩
 ·
  have ou : decide (300 < (a0.size : Int)) = true := decide_eq_true c2
  have vK : decide (300 < a0.size) = true := decide_eq_true (by omega)
  clear c2
  obtain ⟨aHT, akt⟩ := nm ([] : List ByteArray)
  rw [← akt.out] at H
  obtain ⟨rfl, rfl⟩ := s2 H
  go_enter Tryz.func212, Tryz.ntmps212
  go_wp2_with (refine Gu 7 Kd.string 9 akt ?_; intro aHU w3 Ro hb; have auS := ak (Kd.aC Ro (aj (ul HB.out))); replace HB := bs HB hb; clear hb Ro)
  go_ret2
  exact ⟨_, er, ur auS.out, ul HB.out⟩
 ·
  have ou : decide (300 < (a0.size : Int)) = false := decide_eq_false c2
  have vK : decide (300 < a0.size) = false := decide_eq_false (by omega)
  clear c2
  replace H := bd H; obtain ⟨auQ, A5, H⟩ := H; replace H := bd H; obtain ⟨auR, A6, H⟩ := H
  obtain ⟨rfl, rfl⟩ := s2 H
  go_enter Tryz.func212, Tryz.ntmps212
  go_wp2_with (first | (refine gA Tryz.func220 (bM.calls A5.out) ?_; intro nd) | (refine gV Tryz.func219 (jT.calls A6.out) ?_; rintro aHV w7 ⟨ho0, hb⟩; have auT := ak (Kd.aC ho0 (aj (ul HB.out))); replace HB := bs HB hb; clear hb; (try clear ho0)))
  go_ret2
  exact ⟨_, er, ur auT.out, ul HB.out⟩
def jH.l0 : Nat → List ByteArray → Int → Int → Option (Int)
 | 0, _, _, _ => none
 | k + 1, x0, x3, x4 => if x4 < (x0.length : Int) then (if 0 ≤ x4 then (jH.l0 k x0 (wrap64 ((wrap64 (x3 + ((mX ByteArray.empty x0 x4).size : Int))) + 1)) (wrap64 (x4 + 1))) else (none)) else (some x3)
def jH.f (k : Nat) (l0 : List ByteArray) : Option (Int) := jH.l0 k l0 0 0
theorem jH.calls {k c0 : Nat} {A0 : Option Addr} {l0 : List ByteArray} {r : Int} {w : World} (hr0 : Kd.C Kd.string w A0 l0.length l0) (hc0 : l0.length ≤ c0) (h : jH.f k l0 = some r) :
  Calls Tryz.prog 213 #[.slice A0 l0.length c0] w fun e w' => e = .returned (.int .i64 r) ∧ dP w w' := by
 have HR0 := ak hr0
 have xE := ak hc0
 clear hr0 hc0
 unfold jH.f at h; have H := h
 clear h
 have H' := ak H; clear H
 go_enter Tryz.func213, Tryz.ntmps213
 go_wp2
 go_loopg [3, 4] k (fun kq v3 v4 w' => ∃ (dW : Int) (eP : Int), v3 = .int .i64 dW ∧ v4 = .int .i64 eP ∧ ah (jH.l0 kq l0 dW eP = some r) ∧ ah (kq ≤ k) ∧ dP w w')
 case atStart => exact ⟨_, _, rs, rs, H', ⟨Nat.le_refl _⟩, dn⟩
 case round =>
  clear H'
  obtain ⟨dW, eP, rfl, rfl, HA, xI, ⟨m1, rfl⟩⟩ := hrel
  cases gk with
  | zero => exact zz HA.out
  | succ k1 =>
   obtain ⟨H⟩ := HA
   simp only [jH.l0] at H
   replace H := sd H
   rcases H with ⟨ou, H⟩ | ⟨ou, H⟩
   ·
    replace H := oq H; obtain ⟨iO, H⟩ := H
    have H' := ak H; clear H
    have anF := zi eP
    have anG := zj eP l0.length
    obtain ⟨aCA, e219, awQ⟩ := Kd.iU HR0.out eP anF anG
    cases e219
    replace anF := eq_true anF
    replace anG := eq_true anG
    go_wp2
    go_roundg k1
    case measure => exact kl
    case rel => exact ⟨_, _, rs, rs, H', ⟨kl⟩, dn⟩
   ·
    obtain rfl := s1 H
    go_wp2
    go_ret
    exact ⟨rs, dn⟩
def lJ.f (k : Nat) (a0 : ByteArray) : Option (Int × Bool) := if (a0.size : Int) > 300 then (some (0, false)) else ((iM.f k a0).bind fun auU => (if auU.2 = true then (some (0, true)) else ((aZ.f k a0).bind fun auV => ((lI.f k a0).bind fun auW => ((jH.f k auV.1).bind fun t232 => ((jH.f k auW.1).bind fun t233 => (if t232 ≤ t233 then (some (1, true)) else (some (2, true)))))))))
theorem lJ.calls {k : Nat} {a0 : ByteArray} {r1 : Int} {r2 : Bool} {w : World} (h : lJ.f k a0 = some (r1, r2)) :
  Calls Tryz.prog 195 #[.string a0] w fun e w' => e = .returned (.tuple #[.int .i64 r1, .bool r2]) ∧ Below w.heap.size w w' := by
 have HB := ak (Below.refl w.heap.size w)
 unfold lJ.f at h; have H := h
 clear h
 replace H := sp H
 rcases H with ⟨c2, H⟩ | ⟨c2, H⟩
 ·
  have ou : decide (300 < (a0.size : Int)) = true := decide_eq_true c2
  have vK : decide (300 < a0.size) = true := decide_eq_true (by omega)
  clear c2
  obtain ⟨rfl, rfl⟩ := s2 H
  go_enter Tryz.func195, Tryz.ntmps195
  go_wp2
  go_ret2
  exact ⟨er, ul HB.out⟩
 ·
  have ou : decide (300 < (a0.size : Int)) = false := decide_eq_false c2
  have vK : decide (300 < a0.size) = false := decide_eq_false (by omega)
  clear c2
  replace H := bd H
  obtain ⟨⟨aHW, aHX⟩, A3, H⟩ := H
  (try dsimp only at H)
  replace H := sb H
  rcases H with ⟨rfl, H⟩ | ⟨rfl, H⟩
  ·
   obtain ⟨rfl, rfl⟩ := s2 H
   go_enter Tryz.func195, Tryz.ntmps195
   go_wp2_with (refine gV Tryz.func210 (iM.calls A3.out) ?_; rintro v222 w5 ⟨ho0, hb⟩; have BJ := ak (Kd.aC ho0 (aj (ul HB.out))); replace HB := bs HB hb; clear hb; (try clear ho0))
   go_ret2
   exact ⟨er, ul HB.out⟩
  ·
   replace H := bd H
   obtain ⟨⟨aHY, aHZ⟩, A6, H⟩ := H
   (try dsimp only at H)
   replace H := bd H
   obtain ⟨⟨t228, t229⟩, A7, H⟩ := H
   (try dsimp only at H)
   replace H := bd H; obtain ⟨t232, A8, H⟩ := H; replace H := bd H; obtain ⟨t233, A9, H⟩ := H; replace H := sd H
   rcases H with ⟨nY, H⟩ | ⟨nY, H⟩
   ·
    obtain ⟨rfl, rfl⟩ := s2 H
    go_enter Tryz.func195, Tryz.ntmps195
    go_wp2_with (first | (refine gV Tryz.func210 (iM.calls A3.out) ?_; rintro v222 U3 ⟨ho0, hb⟩; have BJ := ak (Kd.aC ho0 (aj (ul HB.out))); replace HB := bs HB hb; clear hb; (try clear ho0)) | (refine gV Tryz.func211 (aZ.calls A6.out) ?_; rintro v226 w12 ⟨ho0, hb⟩; have CU := ak (Kd.aC (Kd.dR ho0 (Kd.jh (ur BJ.out))) (aj (ul HB.out))); replace BJ := ak (Kd.bH (ur BJ.out) (Kd.bZ ho0) hb); replace HB := bs HB hb; clear hb; (try clear ho0)) | (refine gV Tryz.func212 (lI.calls A7.out) ?_; rintro azJ w13 ⟨ho0, hb⟩; have PY := ak (Kd.aC (Kd.dR (Kd.dR ho0 (Kd.jh (ur BJ.out))) (Kd.jh (ur CU.out))) (aj (ul HB.out))); replace BJ := ak (Kd.bH (ur BJ.out) (Kd.bZ ho0) hb); replace CU := ak (Kd.bH (ur CU.out) (Kd.bZ ho0) hb); replace HB := bs HB hb; clear hb; (try clear ho0); obtain ⟨abh, abj, Xa⟩ := Kd.aI CU.out; subst Xa) | (refine gA Tryz.func213 (jH.calls (cu ((Kd.ay CU.out).2.2)) ((Kd.ay CU.out).2.1) A8.out) ?_; intro nd; obtain ⟨KZ, K_, S9⟩ := Kd.aI PY.out; subst S9) | (refine gA Tryz.func213 (jH.calls (cu ((Kd.ay PY.out).2.2)) ((Kd.ay PY.out).2.1) A9.out) ?_; intro nd))
    go_ret2
    exact ⟨er, ul HB.out⟩
   ·
    obtain ⟨rfl, rfl⟩ := s2 H
    go_enter Tryz.func195, Tryz.ntmps195
    go_wp2_with (first | (refine gV Tryz.func210 (iM.calls A3.out) ?_; rintro v222 w16 ⟨ho0, hb⟩; have BJ := ak (Kd.aC ho0 (aj (ul HB.out))); replace HB := bs HB hb; clear hb; (try clear ho0)) | (refine gV Tryz.func211 (aZ.calls A6.out) ?_; rintro v226 w17 ⟨ho0, hb⟩; have CU := ak (Kd.aC (Kd.dR ho0 (Kd.jh (ur BJ.out))) (aj (ul HB.out))); replace BJ := ak (Kd.bH (ur BJ.out) (Kd.bZ ho0) hb); replace HB := bs HB hb; clear hb; (try clear ho0)) | (refine gV Tryz.func212 (lI.calls A7.out) ?_; rintro azJ w18 ⟨ho0, hb⟩; have PY := ak (Kd.aC (Kd.dR (Kd.dR ho0 (Kd.jh (ur BJ.out))) (Kd.jh (ur CU.out))) (aj (ul HB.out))); replace BJ := ak (Kd.bH (ur BJ.out) (Kd.bZ ho0) hb); replace CU := ak (Kd.bH (ur CU.out) (Kd.bZ ho0) hb); replace HB := bs HB hb; clear hb; (try clear ho0); obtain ⟨azu, azv, anf⟩ := Kd.aI CU.out; subst anf) | (refine gA Tryz.func213 (jH.calls (cu ((Kd.ay CU.out).2.2)) ((Kd.ay CU.out).2.1) A8.out) ?_; intro nd; obtain ⟨NM, NP, Tj⟩ := Kd.aI PY.out; subst Tj) | (refine gA Tryz.func213 (jH.calls (cu ((Kd.ay PY.out).2.2)) ((Kd.ay PY.out).2.1) A9.out) ?_; intro nd))
    go_ret2
    exact ⟨er, ul HB.out⟩
def jC.f (k : Nat) (a0 : ByteArray) (a1 : Int) : Option (List ByteArray × Bool) := if a1 = 0 then ((iM.f k a0).bind fun aku => (if aku.2 = true then (some (aku.1, true)) else (some ((([] : List ByteArray)), false)))) else (if a1 = 1 then ((aZ.f k a0).bind fun akv => (some (akv.1, akv.2))) else (if a1 = 2 then ((lI.f k a0).bind fun akw => (some (akw.1, akw.2))) else (some ((([] : List ByteArray)), false))))
theorem jC.calls {k : Nat} {a0 : ByteArray} {a1 : Int} {r1 : List ByteArray} {r2 : Bool} {w : World} (h : jC.f k a0 a1 = some (r1, r2)) :
  Calls Tryz.prog 196 #[.string a0, .int .i64 a1] w fun e w' => ∃ oV : Value, e = .returned (.tuple #[oV, .bool r2]) ∧ Kd.R Kd.string 9 w' w.heap.size (fun _ => True) oV r1 ∧ Below w.heap.size w w' := by
 have HB := ak (Below.refl w.heap.size w)
 unfold jC.f at h; have H := h
 clear h
 replace H := sq H
 rcases H with ⟨iO, yK, H⟩ | ⟨c3, iO, yK, H⟩
 ·
  replace H := bd H
  obtain ⟨⟨t234, aH0⟩, A4, H⟩ := H
  (try dsimp only at H)
  replace H := sb H
  rcases H with ⟨rfl, H⟩ | ⟨rfl, H⟩
  ·
   obtain ⟨rfl, rfl⟩ := s2 H
   go_enter Tryz.func196, Tryz.ntmps196
   go_wp2_with (refine gV Tryz.func210 (iM.calls A4.out) ?_; rintro v236 w6 ⟨ho0, hb⟩; have V3 := ak (Kd.aC ho0 (aj (ul HB.out))); replace HB := bs HB hb; clear hb; (try clear ho0))
   go_ret2
   exact ⟨_, er, ur V3.out, ul HB.out⟩
  ·
   obtain ⟨aH1, akx⟩ := nm ([] : List ByteArray)
   rw [← akx.out] at H
   obtain ⟨rfl, rfl⟩ := s2 H
   go_enter Tryz.func196, Tryz.ntmps196
   go_wp2_with (first | (refine gV Tryz.func210 (iM.calls A4.out) ?_; rintro v236 w7 ⟨ho0, hb⟩; have V3 := ak (Kd.aC ho0 (aj (ul HB.out))); replace HB := bs HB hb; clear hb; (try clear ho0)) | (refine Gu 30 Kd.string 9 akx ?_; intro aH2 w8 ho9 hb; have auX := ak (Kd.aC (Kd.dR ho9 (Kd.jh (ur V3.out))) (aj (ul HB.out))); replace V3 := ak (Kd.bH (ur V3.out) (Kd.bZ ho9) hb); replace HB := bs HB hb; clear hb ho9))
   go_ret2
   exact ⟨_, er, ur (Kd.aY auX.out (fun _ hk => trivial)), ul HB.out⟩
 ·
  replace H := sq H
  rcases H with ⟨nY, rX, H⟩ | ⟨c10, nY, rX, H⟩
  ·
   replace H := bd H
   obtain ⟨⟨aH3, aH4⟩, Zg, H⟩ := H
   (try dsimp only at H)
   obtain ⟨rfl, rfl⟩ := s2 H
   go_enter Tryz.func196, Tryz.ntmps196
   go_wp2_with (refine gV Tryz.func211 (aZ.calls Zg.out) ?_; rintro aH5 w12 ⟨ho0, hb⟩; have auY := ak (Kd.aC ho0 (aj (ul HB.out))); replace HB := bs HB hb; clear hb; (try clear ho0))
   go_ret2
   exact ⟨_, er, ur auY.out, ul HB.out⟩
  ·
   replace H := sq H
   rcases H with ⟨vw, zy, H⟩ | ⟨c13, vw, zy, H⟩
   ·
    replace H := bd H
    obtain ⟨⟨aH6, aH7⟩, A14, H⟩ := H
    (try dsimp only at H)
    obtain ⟨rfl, rfl⟩ := s2 H
    go_enter Tryz.func196, Tryz.ntmps196
    go_wp2_with (refine gV Tryz.func212 (lI.calls A14.out) ?_; rintro aH8 w15 ⟨ho0, hb⟩; have auZ := ak (Kd.aC ho0 (aj (ul HB.out))); replace HB := bs HB hb; clear hb; (try clear ho0))
    go_ret2
    exact ⟨_, er, ur auZ.out, ul HB.out⟩
   ·
    obtain ⟨aH9, aky⟩ := nm ([] : List ByteArray)
    rw [← aky.out] at H
    obtain ⟨rfl, rfl⟩ := s2 H
    go_enter Tryz.func196, Tryz.ntmps196
    go_wp2_with (refine Gu 30 Kd.string 9 aky ?_; intro aH_ w16 au0 hb; have au1 := ak (Kd.aC au0 (aj (ul HB.out))); replace HB := bs HB hb; clear hb au0)
    go_ret2
    exact ⟨_, er, ur au1.out, ul HB.out⟩
end Go.Proofs.YtncdadcmghglkaaGreatDoor.PFnPartLines
