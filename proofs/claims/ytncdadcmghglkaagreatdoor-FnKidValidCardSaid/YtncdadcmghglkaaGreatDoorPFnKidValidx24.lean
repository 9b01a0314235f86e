/- Printed walks; conditions: those in each statement. -/
import Derived.Test.YtncdadcmghglkaaGreatDoorVFnKidValidQt
import Derived.Test.YtncdadcmghglkaaGreatDoorVFnKidValidYt
import Derived.Test.YtncdadcmghglkaaGreatDoorPFnKidValidx0
import Derived.Test.YtncdadcmghglkaaGreatDoorPFnKidValidx21
import Derived.Test.YtncdadcmghglkaaGreatDoorPFnKidValidx22
-- short
-- dense
-- sq
-- sq2
namespace Go.Proofs.YtncdadcmghglkaaGreatDoor.PFnKidValid
open Go.RowKit Go.Proofs.YtncdadcmghglkaaGreatDoor.X Go.Proofs.YtncdadcmghglkaaGreatDoorW.bI Go.Proofs.YtncdadcmghglkaaGreatDoorW.gq Go.Proofs.YtncdadcmghglkaaGreatDoorW.iJ
attribute [local go_sem] kJ kK mD mF jv jw kL kM   -- for this text's walks alone
set_option linter.unusedVariables false
set_option maxHeartbeats 8000000
set_option maxRecDepth 100000
set_option linter.unusedSimpArgs false
def jU.l0 : Nat → ByteArray → Int → List ByteArray → Option (List ByteArray)
 | 0, _, _, _ => none
 | k + 1, x0, x1, x5 => if (x0.size : Int) > x1 then (if 0 ≤ x1 then (if x1 ≤ (x0.size : Int) then (if x5.length < 8796093022208 then (jU.l0 k (x0.extract (x1 : Int).toNat x0.size) x1 (x5 ++ [x0.extract 0 (x1 : Int).toNat])) else (none)) else (none)) else (none)) else (if x5.length < 8796093022208 then (some (x5 ++ [x0])) else (none))
def jU.f (k : Nat) (a0 : ByteArray) (a1 : Int) : Option (List ByteArray) := jU.l0 k a0 a1 (([] : List ByteArray))
theorem jU.calls {k : Nat} {a0 : ByteArray} {a1 : Int} {r : List ByteArray} {w : World} (h : jU.f k a0 a1 = some r) :
  Calls Tryz.prog 219 #[.string a0, .int .i64 a1] w fun e w' => ∃ ql : Value, e = .returned (ql) ∧ Kd.R Kd.string 9 w' w.heap.size (fun _ => True) ql r ∧ Below w.heap.size w w' := by
 have HB := ak (Below.refl w.heap.size w)
 unfold jU.f at h; have H := h
 clear h
 obtain ⟨aGT, akC⟩ := nm ([] : List ByteArray)
 rw [← akC.out] at H
 have H' := ak H; clear H
 go_enter Tryz.func219, Tryz.ntmps219
 go_wp2_with (refine H7 6 Kd.string 9 akC ?_; intro aGU w3 SN hb; have atb := ak (Kd.aC SN (aj (ul HB.out))); replace HB := bs HB hb; clear hb SN)
 go_loopg [0, 5] k (fun kq v0 v5 w' => ∃ (qP : ByteArray) (eP : List ByteArray), v0 = .string qP ∧ ah (jU.l0 kq qP a1 eP = some r) ∧ ah (kq ≤ k) ∧ ah (Kd.R Kd.string 9 w' w.heap.size (fun _ => True) v5 eP) ∧ ah (Below w.heap.size w w'))
 case atStart => exact ⟨_, _, rs, H', ⟨Nat.le_refl _⟩, ⟨ur atb.out⟩, ⟨ul HB.out⟩⟩
 case round =>
  clear H'
  obtain ⟨qP, eP, rfl, HA, xG, qo, HB⟩ := hrel
  cases gk with
  | zero => exact zz HA.out
  | succ k1 =>
   obtain ⟨H⟩ := HA
   simp only [jU.l0] at H
   replace H := sp H
   rcases H with ⟨c5, H⟩ | ⟨c5, H⟩
   ·
    have nO : decide (a1 < (qP.size : Int)) = true := decide_eq_true c5
    clear c5
    replace H := Ac H; obtain ⟨oz, xH, H⟩ := H; replace H := Ac H; obtain ⟨sD, Mc, H⟩ := H; replace H := nl H; obtain ⟨amn, H⟩ := H
    obtain ⟨aGV, akD⟩ := nm (eP ++ [qP.extract 0 (a1 : Int).toNat])
    rw [← akD.out] at H
    have yh := eq_true (of_decide_eq_true (by assumption) : 0 ≤ a1)
    have oC := eq_true (of_decide_eq_true (by assumption) : a1 ≤ (qP.size : Int))
    have H' := ak H; clear H
    go_wp2_with (at_builtin; refine aP 11 15 Kd.string 23 9 (.string ⟨#[]⟩) 16 Tryz.underlying23 info9 HB (ur qo.out) akD (by have := amn.out; omega) ?_; intro aGW Ub ho hb hg hat; have atc := ak (ho); replace HB := ak (hb); clear ho hb hg hat qo)
    go_roundg k1
    case measure => exact kl
    case rel => exact ⟨_, _, rs, H', ⟨kl⟩, ⟨ur atc.out⟩, ⟨ul HB.out⟩⟩
   ·
    have nO : decide (a1 < (qP.size : Int)) = false := decide_eq_false c5
    clear c5
    replace H := nl H; obtain ⟨WG, H⟩ := H
    obtain ⟨aGX, akE⟩ := nm (eP ++ [qP])
    rw [← akE.out] at H
    obtain rfl := s1 H
    go_wp2_with (at_builtin; refine aP 20 22 Kd.string 23 9 (.string ⟨#[]⟩) 16 Tryz.underlying23 info9 HB (ur qo.out) akE (by have := WG.out; omega) ?_; intro aGY w13 ho hb hg hat; have atd := ak (ho); replace HB := ak (hb); clear ho hb hg hat qo)
    go_ret
    exact ⟨_, er, ur atd.out, ul HB.out⟩
def pz.f  : Option (ByteArray) := some (⟨#[65, 66, 67, 68, 69, 70, 71, 72, 73, 74, 75, 76, 77, 78, 79, 80, 81, 82, 83, 84, 85, 86, 87, 88, 89, 90, 97, 98, 99, 100, 101, 102, 103, 104, 105, 106, 107, 108, 109, 110, 111, 112, 113, 114, 115, 116, 117, 118, 119, 120, 121, 122, 48, 49, 50, 51, 52, 53, 54, 55, 56, 57, 43, 47]⟩ : ByteArray)
theorem pz.calls  (r : ByteArray) (w : World) (h : pz.f  = some r) :
  Calls Tryz.prog 222 #[] w fun e w' => e = .returned (.string r) ∧ dS w w' := by
 unfold pz.f at h; have H := h
 clear h
 obtain rfl := s1 H
 go_enter Tryz.func222, Tryz.ntmps222
 go_wp2
 go_ret
 exact ⟨rs, dn⟩
mutual
def bQ.l0 : Nat → ByteArray → ByteArray → Int → Option (ByteArray)
 | 0, _, _, _ => none
 | k + 1, x0, x3, x4 => if x4 < (x0.size : Int) then (if 0 ≤ x4 then (if (wrap64 (x4 + 1)) < (x0.size : Int) then (if 0 ≤ (wrap64 (x4 + 1)) then (bQ.j1 k x0 x3 x4 (wrap64 ((wrap64 ((wrap64 (bt x0 x4)) * 65536)) + (wrap64 ((wrap64 (bt x0 (wrap64 (x4 + 1)))) * 256))))) else (none)) else (bQ.j1 k x0 x3 x4 (wrap64 ((wrap64 (bt x0 x4)) * 65536)))) else (none)) else (some x3)
def bQ.j1 : Nat → ByteArray → ByteArray → Int → Int → Option (ByteArray)
 | 0, _, _, _, _ => none
 | k + 1, x0, x3, x4, x5 => if (wrap64 (x4 + 2)) < (x0.size : Int) then (if 0 ≤ (wrap64 (x4 + 2)) then (bQ.j2 k x0 x3 x4 (wrap64 (x5 + (wrap64 (bt x0 (wrap64 (x4 + 2))))))) else (none)) else (bQ.j2 k x0 x3 x4 x5)
def bQ.j2 : Nat → ByteArray → ByteArray → Int → Int → Option (ByteArray)
 | 0, _, _, _, _ => none
 | k + 1, x0, x3, x4, x5 => bQ.l1 k x0 x3 x4 x5 0
def bQ.l1 : Nat → ByteArray → ByteArray → Int → Int → Int → Option (ByteArray)
 | 0, _, _, _, _, _ => none
 | k + 1, x0, x3, x4, x5, x6 => if x6 < 4 then (if (wrap64 (x4 + x6)) > (x0.size : Int) then (if x3.size + 1 ≤ 9223372036854775807 then (bQ.l1 k x0 (x3 ++ (⟨#[61]⟩ : ByteArray)) x4 x5 (wrap64 (x6 + 1))) else (none)) else (if 0 ≤ (wrap64 (18 - (wrap64 (6 * x6)))) then ((pz.f).bind fun IU => (if 0 ≤ (Go.bits .and .i64 (shr .i64 x5 (wrap64 (18 - (wrap64 (6 * x6))))) 63) then (if (Go.bits .and .i64 (shr .i64 x5 (wrap64 (18 - (wrap64 (6 * x6))))) 63) ≤ (wrap64 ((Go.bits .and .i64 (shr .i64 x5 (wrap64 (18 - (wrap64 (6 * x6))))) 63) + 1)) then (if (wrap64 ((Go.bits .and .i64 (shr .i64 x5 (wrap64 (18 - (wrap64 (6 * x6))))) 63) + 1)) ≤ (IU.size : Int) then (if x3.size + (IU.extract ((Go.bits .and .i64 (shr .i64 x5 (wrap64 (18 - (wrap64 (6 * x6))))) 63) : Int).toNat ((wrap64 ((Go.bits .and .i64 (shr .i64 x5 (wrap64 (18 - (wrap64 (6 * x6))))) 63) + 1)) : Int).toNat).size ≤ 9223372036854775807 then (bQ.l1 k x0 (x3 ++ (IU.extract ((Go.bits .and .i64 (shr .i64 x5 (wrap64 (18 - (wrap64 (6 * x6))))) 63) : Int).toNat ((wrap64 ((Go.bits .and .i64 (shr .i64 x5 (wrap64 (18 - (wrap64 (6 * x6))))) 63) + 1)) : Int).toNat)) x4 x5 (wrap64 (x6 + 1))) else (none)) else (none)) else (none)) else (none))) else (none))) else (bQ.l0 k x0 x3 (wrap64 (x4 + 3)))
end
def bQ.f (k : Nat) (a0 : ByteArray) : Option (ByteArray) := bQ.l0 k a0 (⟨#[]⟩ : ByteArray) 0
theorem bQ.calls {k : Nat} {a0 r : ByteArray} {w : World} (h : bQ.f k a0 = some r) :
  Calls Tryz.prog 220 #[.string a0] w fun e w' => e = .returned (.string r) ∧ dS w w' := by
 unfold bQ.f at h; have H := h
 clear h
 have H' := ak H; clear H
 go_enter Tryz.func220, Tryz.ntmps220
 go_wp2
 go_loopg [3, 4] k (fun kq v3 v4 w' => ∃ (dM : ByteArray) (dV : Int), v3 = .string dM ∧ v4 = .int .i64 dV ∧ ah (bQ.l0 kq a0 dM dV = some r) ∧ ah (kq ≤ k) ∧ dS w w')
 case atStart => exact ⟨_, _, rs, rs, H', ⟨Nat.le_refl _⟩, dn⟩
 case round =>
  clear H'
  obtain ⟨dM, dV, rfl, rfl, HA, xG, ⟨m1, rfl⟩⟩ := hrel
  cases gk with
  | zero => exact zz HA.out
  | succ k1 =>
   obtain ⟨H⟩ := HA
   simp only [bQ.l0] at H
   replace H := sd H
   rcases H with ⟨nT, H⟩ | ⟨nT, H⟩
   ·
    replace H := oL H; obtain ⟨iO, H⟩ := H
    have HC5 := ak H
    clear H
    obtain ⟨p4, q4, hx4⟩ := bx a0 dV
    go_upto_if 23 with (fail)
    go_cut [5] (fun v5 wc => ∃ (kq : Nat) (V3 : Int), v5 = .int .i64 V3 ∧ ah (bQ.j1 kq a0 dM dV V3 = some r) ∧ ah (kq ≤ k1) ∧ dS w wc)
    case first =>
     have H := HC5.out
     clear HC5
     replace H := sp H
     rcases H with ⟨c6, H⟩ | ⟨c6, H⟩
     ·
      have oz := decide_eq_true c6
      (try (have xH : decide ((dV + 1) < (a0.size : Int)) = true := decide_eq_true (by have h_ := c6; unfold wrap64 at h_; omega)))
      clear c6
      (first | rw [oz] | (simp only [dP, fG]; rw [oz]) | skip)
      obtain ⟨ji7, Oz⟩ : ∃ j_ : Int, (wrap64 (dV + 1)) = j_ := ⟨_, rfl⟩
      replace H : (if 0 ≤ (ji7) then (bQ.j1 k1 a0 dM dV (wrap64 ((wrap64 ((wrap64 (bt a0 dV)) * 65536)) + (wrap64 ((wrap64 (bt a0 (ji7))) * 256))))) else (none)) = some r := by first | (rw [Oz] at H; exact H) | (simp only [Oz] at H ⊢; exact H)
      (try rw [Oz] at oz)
      have asx : (IntKind.i64.wrap (dV + 1)) = ji7 := (dP _).trans Oz
      replace H := oL H; obtain ⟨tu, H⟩ := H
      have H' := ak H; clear H
      obtain ⟨p9, q9, Zv⟩ := bx a0 (ji7)
      go_wp2
      go_meet
      case rel => exact ⟨_, _, (by first | rfl | (simp; done) | (simp only [← Oz] <;> (first | rfl | simp)) | (simp [*]; done)), H', ⟨kl⟩, dn⟩
     ·
      have oz := decide_eq_false c6
      (try (have xH : decide ((dV + 1) < (a0.size : Int)) = false := decide_eq_false (by have h_ := c6; unfold wrap64 at h_; omega)))
      clear c6
      (first | rw [oz] | (simp only [dP, fG]; rw [oz]) | skip)
      have H' := ak H; clear H
      go_wp2
      go_meet
      case rel => exact ⟨_, _, rs, H', ⟨kl⟩, dn⟩
    case rest =>
     clear HC5
     try clear nT
     try clear iO
     try clear p4
     try clear q4
     try clear hx4
     try clear p4
     try clear q4
     obtain ⟨kq, V3, rfl, HA, HJ4, ⟨mc4, rfl⟩⟩ := hcut
     cases kq with
     | zero => exact zz HA.out
     | succ kj4 =>
      obtain ⟨H⟩ := HA
      simp only [bQ.j1] at H
      have an2 := ak H
      clear H
      go_upto_if 36 with (fail)
      go_cut [5] (fun v5 wc => ∃ (kq : Nat) (FH : Int), v5 = .int .i64 FH ∧ ah (bQ.j2 kq a0 dM dV FH = some r) ∧ ah (kq ≤ kj4) ∧ dS w wc)
      case first =>
       have H := an2.out
       clear an2
       replace H := sp H
       rcases H with ⟨c11, H⟩ | ⟨c11, H⟩
       ·
        have uH := decide_eq_true c11
        (try (have EC : decide ((dV + 2) < (a0.size : Int)) = true := decide_eq_true (by have h_ := c11; unfold wrap64 at h_; omega)))
        clear c11
        (first | rw [uH] | (simp only [dP, fG]; rw [uH]) | skip)
        obtain ⟨OC, EG⟩ : ∃ j_ : Int, (wrap64 (dV + 2)) = j_ := ⟨_, rfl⟩
        replace H : (if 0 ≤ (OC) then (bQ.j2 kj4 a0 dM dV (wrap64 (V3 + (wrap64 (bt a0 (OC)))))) else (none)) = some r := by first | (rw [EG] at H; exact H) | (simp only [EG] at H ⊢; exact H)
        (try rw [EG] at uH)
        have an3 : (IntKind.i64.wrap (dV + 2)) = OC := (dP _).trans EG
        replace H := oL H; obtain ⟨wo, H⟩ := H
        have H' := ak H; clear H
        obtain ⟨p14, q14, amM⟩ := bx a0 (OC)
        go_wp2
        go_meet
        case rel => exact ⟨_, _, (by first | rfl | (simp; done) | (simp only [← EG] <;> (first | rfl | simp)) | (simp [*]; done)), H', ⟨kl⟩, dn⟩
       ·
        have uH := decide_eq_false c11
        (try (have EC : decide ((dV + 2) < (a0.size : Int)) = false := decide_eq_false (by have h_ := c11; unfold wrap64 at h_; omega)))
        clear c11
        (first | rw [uH] | (simp only [dP, fG]; rw [uH]) | skip)
        have H' := ak H; clear H
        go_wp2
        go_meet
        case rel => exact ⟨_, _, rs, H', ⟨kl⟩, dn⟩
      case rest =>
       clear an2
       try clear nT
       try clear iO
       try clear p4
       try clear q4
       try clear hx4
       try clear p4
       try clear q4
       obtain ⟨kq, FH, rfl, HA, HJ9, ⟨mc9, rfl⟩⟩ := hcut
       cases kq with
       | zero => exact zz HA.out
       | succ kj9 =>
        obtain ⟨H⟩ := HA
        simp only [bQ.j2] at H
        have H' := ak H; clear H
        go_wp2
        go_loopg [3, 6] kj9 (fun kq v3 v6 w' => ∃ (RV : ByteArray) (Qj : Int), v3 = .string RV ∧ v6 = .int .i64 Qj ∧ ah (bQ.l1 kq a0 RV dV FH Qj = some r) ∧ ah (kq ≤ kj9) ∧ dS w w')
        case atStart => exact ⟨_, _, rs, rs, H', ⟨Nat.le_refl _⟩, dn⟩
        case round =>
         clear H'
         try clear nT
         try clear iO
         try clear p4
         try clear q4
         try clear hx4
         try clear p4
         try clear q4
         obtain ⟨RV, Qj, rfl, rfl, HA, HK4, ⟨m4, rfl⟩⟩ := hrel
         cases gk with
         | zero => exact zz HA.out
         | succ k4 =>
          obtain ⟨H⟩ := HA
          simp only [bQ.l1] at H
          replace H := sd H
          rcases H with ⟨wu, H⟩ | ⟨wu, H⟩
          ·
           replace H := sp H
           rcases H with ⟨c16, H⟩ | ⟨c16, H⟩
           ·
            have zW : decide ((a0.size : Int) < (wrap64 (dV + Qj))) = true := decide_eq_true c16
            replace H := nn H; obtain ⟨c17, H⟩ := H
            (try (have JH : decide ((a0.size : Int) < (dV + Qj)) = true := decide_eq_true (by have h_ := c16; have h2_ := c17; unfold wrap64 at h_; omega)))
            clear c16
            have tJ := eq_true c17
            have NM := decide_eq_true c17
            try have as3 : (9223372036854775807 < RV.size + 1) = False := eq_false (Nat.not_lt.2 c17)
            have H' := ak H; clear H
            go_wp2
            go_roundg k4
            case measure => exact kl
            case rel => exact ⟨_, _, rs, rs, H', ⟨kl⟩, dn⟩
           ·
            have zW : decide ((a0.size : Int) < (wrap64 (dV + Qj))) = false := decide_eq_false c16
            (try (have JH : decide ((a0.size : Int) < (dV + Qj)) = false := decide_eq_false (by have h_ := c16; unfold wrap64 at h_; omega)))
            clear c16
            obtain ⟨J8, aep⟩ : ∃ j_ : Int, (wrap64 (18 - (wrap64 (6 * Qj)))) = j_ := ⟨_, rfl⟩
            replace H : (if 0 ≤ (J8) then ((pz.f).bind fun IU => (if 0 ≤ (Go.bits .and .i64 (shr .i64 FH (J8)) 63) then (if (Go.bits .and .i64 (shr .i64 FH (J8)) 63) ≤ (wrap64 ((Go.bits .and .i64 (shr .i64 FH (J8)) 63) + 1)) then (if (wrap64 ((Go.bits .and .i64 (shr .i64 FH (J8)) 63) + 1)) ≤ (IU.size : Int) then (if RV.size + (IU.extract ((Go.bits .and .i64 (shr .i64 FH (J8)) 63) : Int).toNat ((wrap64 ((Go.bits .and .i64 (shr .i64 FH (J8)) 63) + 1)) : Int).toNat).size ≤ 9223372036854775807 then (bQ.l1 k4 a0 (RV ++ (IU.extract ((Go.bits .and .i64 (shr .i64 FH (J8)) 63) : Int).toNat ((wrap64 ((Go.bits .and .i64 (shr .i64 FH (J8)) 63) + 1)) : Int).toNat)) dV FH (wrap64 (Qj + 1))) else (none)) else (none)) else (none)) else (none))) else (none)) = some r := by first | (rw [aep] at H; exact H) | (simp only [aep] at H ⊢; exact H)
            have azE : (IntKind.i64.wrap (18 - (wrap64 (6 * Qj)))) = J8 := (dP _).trans aep
            replace H := Ac H; obtain ⟨Aw, Ew, H⟩ := H
            obtain ⟨J9, WH⟩ : ∃ j_ : Int, (shr .i64 FH (J8)) = j_ := ⟨_, rfl⟩
            replace H : ((pz.f).bind fun IU => (if 0 ≤ (Go.bits .and .i64 (J9) 63) then (if (Go.bits .and .i64 (J9) 63) ≤ (wrap64 ((Go.bits .and .i64 (J9) 63) + 1)) then (if (wrap64 ((Go.bits .and .i64 (J9) 63) + 1)) ≤ (IU.size : Int) then (if RV.size + (IU.extract ((Go.bits .and .i64 (J9) 63) : Int).toNat ((wrap64 ((Go.bits .and .i64 (J9) 63) + 1)) : Int).toNat).size ≤ 9223372036854775807 then (bQ.l1 k4 a0 (RV ++ (IU.extract ((Go.bits .and .i64 (J9) 63) : Int).toNat ((wrap64 ((Go.bits .and .i64 (J9) 63) + 1)) : Int).toNat)) dV FH (wrap64 (Qj + 1))) else (none)) else (none)) else (none)) else (none))) = some r := by first | (rw [WH] at H; exact H) | (simp only [WH] at H ⊢; exact H)
            have azF : (FH / 2 ^ min (J8).toNat 64) = J9 := WH
            have azG : (J8) ≤ 64 → (FH / 2 ^ (J8).toNat) = J9 := acB WH
            replace H := bd H; obtain ⟨IU, A21, H⟩ := H; replace H := Ac H; obtain ⟨Fv, Zx, H⟩ := H; replace H := nn H; obtain ⟨c23, H⟩ := H
            have zh := eq_true c23
            have NV := decide_eq_true c23
            replace H := nn H; obtain ⟨c24, H⟩ := H
            have NS := eq_true c24
            have ad6 := decide_eq_true c24
            replace H := nn H; obtain ⟨c25, H⟩ := H
            have PU := eq_true c25
            have adQ := decide_eq_true c25
            try have aCS : (9223372036854775807 < RV.size + ((IU.extract ((Go.bits .and .i64 (J9) 63) : Int).toNat ((wrap64 ((Go.bits .and .i64 (J9) 63) + 1)) : Int).toNat).size)) = False := by have h_ := c25; simp only [ByteArray.size_append, ByteArray.size_extract] at h_; refine eq_false ?_; simp only [decide_eq_true_eq] at *; omega
            try have ate : (9223372036854775807 < RV.size + (IU.extract ((Go.bits .and .i64 (J9) 63) : Int).toNat ((wrap64 ((Go.bits .and .i64 (J9) 63) + 1)) : Int).toNat).size) = False := eq_false (Nat.not_lt.2 c25)
            have H' := ak H; clear H
            go_wp2_with (refine gA Tryz.func222 (pz.calls  IU _ A21.out) ?_; intro nd)
            go_roundg k4
            case measure => exact kl
            case rel => exact ⟨_, _, (by first | rfl | (simp; done) | (simp only [← WH] <;> (first | rfl | simp)) | (simp [*]; done)), rs, H', ⟨kl⟩, dn⟩
          ·
           have H' := ak H; clear H
           go_wp2
           go_roundg k4
           case measure => exact kl
           case rel => exact ⟨_, _, rs, rs, H', ⟨kl⟩, dn⟩
   ·
    obtain rfl := s1 H
    go_wp2
    go_ret
    exact ⟨rs, dn⟩
def lM.f (k : Nat) (a0 : ByteArray) : Option (List ByteArray × Bool) := if (a0.size : Int) > 300 then (some ((([] : List ByteArray)), false)) else ((bQ.f k a0).bind fun atf => ((jU.f k atf 40).bind fun atg => (some (atg, true))))
theorem lM.calls {k : Nat} {a0 : ByteArray} {r1 : List ByteArray} {r2 : Bool} {w : World} (h : lM.f k a0 = some (r1, r2)) :
  Calls Tryz.prog 212 #[.string a0] w fun e w' => ∃ ql : Value, e = .returned (.tuple #[ql, .bool r2]) ∧ Kd.R Kd.string 9 w' w.heap.size (fun _ => True) ql r1 ∧ Below w.heap.size w w' := by
 have HB := ak (Below.refl w.heap.size w)
 unfold lM.f at h; have H := h
 clear h
 replace H := sp H
 rcases H with ⟨c2, H⟩ | ⟨c2, H⟩
 ·
  have nT : decide (300 < (a0.size : Int)) = true := decide_eq_true c2
  have uF : decide (300 < a0.size) = true := decide_eq_true (by omega)
  clear c2
  obtain ⟨aGZ, akF⟩ := nm ([] : List ByteArray)
  rw [← akF.out] at H
  obtain ⟨rfl, rfl⟩ := s2 H
  go_enter Tryz.func212, Tryz.ntmps212
  go_wp2_with (refine H7 7 Kd.string 9 akF ?_; intro aG0 w3 SN hb; have ath := ak (Kd.aC SN (aj (ul HB.out))); replace HB := bs HB hb; clear hb SN)
  go_ret2
  exact ⟨_, er, ur ath.out, ul HB.out⟩
 ·
  have nT : decide (300 < (a0.size : Int)) = false := decide_eq_false c2
  have uF : decide (300 < a0.size) = false := decide_eq_false (by omega)
  clear c2
  replace H := bd H; obtain ⟨atf, A5, H⟩ := H; replace H := bd H; obtain ⟨atg, A6, H⟩ := H
  obtain ⟨rfl, rfl⟩ := s2 H
  go_enter Tryz.func212, Tryz.ntmps212
  go_wp2_with (first | (refine gA Tryz.func220 (bQ.calls A5.out) ?_; intro nd) | (refine gV Tryz.func219 (jU.calls A6.out) ?_; rintro aG1 w7 ⟨ho0, hb⟩; have ati := ak (Kd.aC ho0 (aj (ul HB.out))); replace HB := bs HB hb; clear hb; (try clear ho0)))
  go_ret2
  exact ⟨_, er, ur ati.out, ul HB.out⟩
def jM.l0 : Nat → List ByteArray → Int → Int → Option (Int)
 | 0, _, _, _ => none
 | k + 1, x0, x3, x4 => if x4 < (x0.length : Int) then (if 0 ≤ x4 then (jM.l0 k x0 (wrap64 ((wrap64 (x3 + ((o9 ByteArray.empty x0 x4).size : Int))) + 1)) (wrap64 (x4 + 1))) else (none)) else (some x3)
def jM.f (k : Nat) (l0 : List ByteArray) : Option (Int) := jM.l0 k l0 0 0
theorem jM.calls {k c0 : Nat} {A0 : Option Addr} {l0 : List ByteArray} {r : Int} {w : World} (hr0 : Kd.C Kd.string w A0 l0.length l0) (hc0 : l0.length ≤ c0) (h : jM.f k l0 = some r) :
  Calls Tryz.prog 213 #[.slice A0 l0.length c0] w fun e w' => e = .returned (.int .i64 r) ∧ dS w w' := by
 have HR0 := ak hr0
 have yu := ak hc0
 clear hr0 hc0
 unfold jM.f at h; have H := h
 clear h
 have H' := ak H; clear H
 go_enter Tryz.func213, Tryz.ntmps213
 go_wp2
 go_loopg [3, 4] k (fun kq v3 v4 w' => ∃ (dM : Int) (dV : Int), v3 = .int .i64 dM ∧ v4 = .int .i64 dV ∧ ah (jM.l0 kq l0 dM dV = some r) ∧ ah (kq ≤ k) ∧ dS w w')
 case atStart => exact ⟨_, _, rs, rs, H', ⟨Nat.le_refl _⟩, dn⟩
 case round =>
  clear H'
  obtain ⟨dM, dV, rfl, rfl, HA, xG, ⟨m1, rfl⟩⟩ := hrel
  cases gk with
  | zero => exact zz HA.out
  | succ k1 =>
   obtain ⟨H⟩ := HA
   simp only [jM.l0] at H
   replace H := sd H
   rcases H with ⟨nT, H⟩ | ⟨nT, H⟩
   ·
    replace H := oL H; obtain ⟨iO, H⟩ := H
    have H' := ak H; clear H
    have an4 := zi dV
    have an5 := zj dV l0.length
    obtain ⟨aCT, azH, axp⟩ := Kd.jZ HR0.out dV an4 an5
    cases azH
    replace an4 := eq_true an4
    replace an5 := eq_true an5
    go_wp2
    go_roundg k1
    case measure => exact kl
    case rel => exact ⟨_, _, rs, rs, H', ⟨kl⟩, dn⟩
   ·
    obtain rfl := s1 H
    go_wp2
    go_ret
    exact ⟨rs, dn⟩
def lQ.f (k : Nat) (a0 : ByteArray) : Option (Int × Bool) := if (a0.size : Int) > 300 then (some (0, false)) else ((iL.f k a0).bind fun atj => (if atj.2 = true then (some (0, true)) else ((bf.f k a0).bind fun atl => ((lM.f k a0).bind fun atm => ((jM.f k atl.1).bind fun atn => ((jM.f k atm.1).bind fun ato => (if atn ≤ ato then (some (1, true)) else (some (2, true)))))))))
theorem lQ.calls {k : Nat} {a0 : ByteArray} {r1 : Int} {r2 : Bool} {w : World} (h : lQ.f k a0 = some (r1, r2)) :
  Calls Tryz.prog 195 #[.string a0] w fun e w' => e = .returned (.tuple #[.int .i64 r1, .bool r2]) ∧ Below w.heap.size w w' := by
 have HB := ak (Below.refl w.heap.size w)
 unfold lQ.f at h; have H := h
 clear h
 replace H := sp H
 rcases H with ⟨c2, H⟩ | ⟨c2, H⟩
 ·
  have nT : decide (300 < (a0.size : Int)) = true := decide_eq_true c2
  have uF : decide (300 < a0.size) = true := decide_eq_true (by omega)
  clear c2
  obtain ⟨rfl, rfl⟩ := s2 H
  go_enter Tryz.func195, Tryz.ntmps195
  go_wp2
  go_ret2
  exact ⟨er, ul HB.out⟩
 ·
  have nT : decide (300 < (a0.size : Int)) = false := decide_eq_false c2
  have uF : decide (300 < a0.size) = false := decide_eq_false (by omega)
  clear c2
  replace H := bd H
  obtain ⟨⟨aG2, aG3⟩, A3, H⟩ := H
  (try dsimp only at H)
  replace H := sb H
  rcases H with ⟨rfl, H⟩ | ⟨rfl, H⟩
  ·
   obtain ⟨rfl, rfl⟩ := s2 H
   go_enter Tryz.func195, Tryz.ntmps195
   go_wp2_with (refine gV Tryz.func210 (iL.calls A3.out) ?_; rintro atp w5 ⟨ho0, hb⟩; have Cc := ak (Kd.aC ho0 (aj (ul HB.out))); replace HB := bs HB hb; clear hb; (try clear ho0))
   go_ret2
   exact ⟨er, ul HB.out⟩
  ·
   replace H := bd H
   obtain ⟨⟨aG4, aG5⟩, A6, H⟩ := H
   (try dsimp only at H)
   replace H := bd H
   obtain ⟨⟨aG6, aG7⟩, A7, H⟩ := H
   (try dsimp only at H)
   replace H := bd H; obtain ⟨atn, A8, H⟩ := H; replace H := bd H; obtain ⟨ato, A9, H⟩ := H; replace H := sd H
   rcases H with ⟨oC, H⟩ | ⟨oC, H⟩
   ·
    obtain ⟨rfl, rfl⟩ := s2 H
    go_enter Tryz.func195, Tryz.ntmps195
    go_wp2_with (first | (refine gV Tryz.func210 (iL.calls A3.out) ?_; rintro atp Ub ⟨ho0, hb⟩; have Cc := ak (Kd.aC ho0 (aj (ul HB.out))); replace HB := bs HB hb; clear hb; (try clear ho0)) | (refine gV Tryz.func211 (bf.calls A6.out) ?_; rintro azI w12 ⟨ho0, hb⟩; have Du := ak (Kd.aC (Kd.gK ho0 (Kd.kU (ur Cc.out))) (aj (ul HB.out))); replace Cc := ak (Kd.fP (ur Cc.out) (Kd.fO ho0) hb); replace HB := bs HB hb; clear hb; (try clear ho0)) | (refine gV Tryz.func212 (lM.calls A7.out) ?_; rintro azJ w13 ⟨ho0, hb⟩; have Qk := ak (Kd.aC (Kd.gK (Kd.gK ho0 (Kd.kU (ur Cc.out))) (Kd.kU (ur Du.out))) (aj (ul HB.out))); replace Cc := ak (Kd.fP (ur Cc.out) (Kd.fO ho0) hb); replace Du := ak (Kd.fP (ur Du.out) (Kd.fO ho0) hb); replace HB := bs HB hb; clear hb; (try clear ho0); obtain ⟨ace, acf, XV⟩ := Kd.aV Du.out; subst XV) | (refine gA Tryz.func213 (jM.calls (cu ((Kd.aH Du.out).2.2)) ((Kd.aH Du.out).2.1) A8.out) ?_; intro nd; obtain ⟨LU, LV, Ue⟩ := Kd.aV Qk.out; subst Ue) | (refine gA Tryz.func213 (jM.calls (cu ((Kd.aH Qk.out).2.2)) ((Kd.aH Qk.out).2.1) A9.out) ?_; intro nd))
    go_ret2
    exact ⟨er, ul HB.out⟩
   ·
    obtain ⟨rfl, rfl⟩ := s2 H
    go_enter Tryz.func195, Tryz.ntmps195
    go_wp2_with (first | (refine gV Tryz.func210 (iL.calls A3.out) ?_; rintro atp w16 ⟨ho0, hb⟩; have Cc := ak (Kd.aC ho0 (aj (ul HB.out))); replace HB := bs HB hb; clear hb; (try clear ho0)) | (refine gV Tryz.func211 (bf.calls A6.out) ?_; rintro azI w17 ⟨ho0, hb⟩; have Du := ak (Kd.aC (Kd.gK ho0 (Kd.kU (ur Cc.out))) (aj (ul HB.out))); replace Cc := ak (Kd.fP (ur Cc.out) (Kd.fO ho0) hb); replace HB := bs HB hb; clear hb; (try clear ho0)) | (refine gV Tryz.func212 (lM.calls A7.out) ?_; rintro azJ w18 ⟨ho0, hb⟩; have Qk := ak (Kd.aC (Kd.gK (Kd.gK ho0 (Kd.kU (ur Cc.out))) (Kd.kU (ur Du.out))) (aj (ul HB.out))); replace Cc := ak (Kd.fP (ur Cc.out) (Kd.fO ho0) hb); replace Du := ak (Kd.fP (ur Du.out) (Kd.fO ho0) hb); replace HB := bs HB hb; clear hb; (try clear ho0); obtain ⟨aG8, aG9, azK⟩ := Kd.aV Du.out; subst azK) | (refine gA Tryz.func213 (jM.calls (cu ((Kd.aH Du.out).2.2)) ((Kd.aH Du.out).2.1) A8.out) ?_; intro nd; obtain ⟨Ql, Qm, Yu⟩ := Kd.aV Qk.out; subst Yu) | (refine gA Tryz.func213 (jM.calls (cu ((Kd.aH Qk.out).2.2)) ((Kd.aH Qk.out).2.1) A9.out) ?_; intro nd))
    go_ret2
    exact ⟨er, ul HB.out⟩
def jJ.f (k : Nat) (a0 : ByteArray) (a1 : Int) : Option (List ByteArray × Bool) := if a1 = 0 then ((iL.f k a0).bind fun akG => (if akG.2 = true then (some (akG.1, true)) else (some ((([] : List ByteArray)), false)))) else (if a1 = 1 then ((bf.f k a0).bind fun akH => (some (akH.1, akH.2))) else (if a1 = 2 then ((lM.f k a0).bind fun akI => (some (akI.1, akI.2))) else (some ((([] : List ByteArray)), false))))
theorem jJ.calls {k : Nat} {a0 : ByteArray} {a1 : Int} {r1 : List ByteArray} {r2 : Bool} {w : World} (h : jJ.f k a0 a1 = some (r1, r2)) :
  Calls Tryz.prog 196 #[.string a0, .int .i64 a1] w fun e w' => ∃ ql : Value, e = .returned (.tuple #[ql, .bool r2]) ∧ Kd.R Kd.string 9 w' w.heap.size (fun _ => True) ql r1 ∧ Below w.heap.size w w' := by
 have HB := ak (Below.refl w.heap.size w)
 unfold jJ.f at h; have H := h
 clear h
 replace H := sq H
 rcases H with ⟨iO, Au, H⟩ | ⟨c3, iO, Au, H⟩
 ·
  replace H := bd H
  obtain ⟨⟨aG_, aHa⟩, A4, H⟩ := H
  (try dsimp only at H)
  replace H := sb H
  rcases H with ⟨rfl, H⟩ | ⟨rfl, H⟩
  ·
   obtain ⟨rfl, rfl⟩ := s2 H
   go_enter Tryz.func196, Tryz.ntmps196
   go_wp2_with (refine gV Tryz.func210 (iL.calls A4.out) ?_; rintro azL w6 ⟨ho0, hb⟩; have WI := ak (Kd.aC ho0 (aj (ul HB.out))); replace HB := bs HB hb; clear hb; (try clear ho0))
   go_ret2
   exact ⟨_, er, ur WI.out, ul HB.out⟩
  ·
   obtain ⟨aHb, akJ⟩ := nm ([] : List ByteArray)
   rw [← akJ.out] at H
   obtain ⟨rfl, rfl⟩ := s2 H
   go_enter Tryz.func196, Tryz.ntmps196
   go_wp2_with (first | (refine gV Tryz.func210 (iL.calls A4.out) ?_; rintro azL w7 ⟨ho0, hb⟩; have WI := ak (Kd.aC ho0 (aj (ul HB.out))); replace HB := bs HB hb; clear hb; (try clear ho0)) | (refine H7 30 Kd.string 9 akJ ?_; intro aHc w8 ho9 hb; have atq := ak (Kd.aC (Kd.gK ho9 (Kd.kU (ur WI.out))) (aj (ul HB.out))); replace WI := ak (Kd.fP (ur WI.out) (Kd.fO ho9) hb); replace HB := bs HB hb; clear hb ho9))
   go_ret2
   exact ⟨_, er, ur (Kd.bn atq.out (fun _ hk => trivial)), ul HB.out⟩
 ·
  replace H := sq H
  rcases H with ⟨oC, sS, H⟩ | ⟨c10, oC, sS, H⟩
  ·
   replace H := bd H
   obtain ⟨⟨aHd, aHe⟩, Zn, H⟩ := H
   (try dsimp only at H)
   obtain ⟨rfl, rfl⟩ := s2 H
   go_enter Tryz.func196, Tryz.ntmps196
   go_wp2_with (refine gV Tryz.func211 (bf.calls Zn.out) ?_; rintro aHf w12 ⟨ho0, hb⟩; have atr := ak (Kd.aC ho0 (aj (ul HB.out))); replace HB := bs HB hb; clear hb; (try clear ho0))
   go_ret2
   exact ⟨_, er, ur atr.out, ul HB.out⟩
  ·
   replace H := sq H
   rcases H with ⟨wo, zU, H⟩ | ⟨c13, wo, zU, H⟩
   ·
    replace H := bd H
    obtain ⟨⟨aHg, aHh⟩, A14, H⟩ := H
    (try dsimp only at H)
    obtain ⟨rfl, rfl⟩ := s2 H
    go_enter Tryz.func196, Tryz.ntmps196
    go_wp2_with (refine gV Tryz.func212 (lM.calls A14.out) ?_; rintro aHi w15 ⟨ho0, hb⟩; have att := ak (Kd.aC ho0 (aj (ul HB.out))); replace HB := bs HB hb; clear hb; (try clear ho0))
    go_ret2
    exact ⟨_, er, ur att.out, ul HB.out⟩
   ·
    obtain ⟨aHj, akK⟩ := nm ([] : List ByteArray)
    rw [← akK.out] at H
    obtain ⟨rfl, rfl⟩ := s2 H
    go_enter Tryz.func196, Tryz.ntmps196
    go_wp2_with (refine H7 30 Kd.string 9 akK ?_; intro aHk w16 atu hb; have atv := ak (Kd.aC atu (aj (ul HB.out))); replace HB := bs HB hb; clear hb atu)
    go_ret2
    exact ⟨_, er, ur atv.out, ul HB.out⟩
end Go.Proofs.YtncdadcmghglkaaGreatDoor.PFnKidValid
