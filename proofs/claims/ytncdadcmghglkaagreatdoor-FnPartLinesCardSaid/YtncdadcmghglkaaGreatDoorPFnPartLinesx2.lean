/- Printed walks; conditions: those in each statement. -/
import Derived.Test.YtncdadcmghglkaaGreatDoorVFnPartLinesQt
import Derived.Test.YtncdadcmghglkaaGreatDoorVFnPartLinesYt
import Derived.Test.YtncdadcmghglkaaGreatDoorPFnPartLinesx0
import Derived.Test.YtncdadcmghglkaaGreatDoorPFnPartLinesx1
-- short
-- dense
-- sq
-- sq2
namespace Go.Proofs.YtncdadcmghglkaaGreatDoor.PFnPartLines
open Go.RowKit Go.Proofs.YtncdadcmghglkaaGreatDoor.X Go.Proofs.YtncdadcmghglkaaGreatDoorW.bI Go.Proofs.YtncdadcmghglkaaGreatDoorW.iy Go.Proofs.YtncdadcmghglkaaGreatDoorW.iZ
attribute [local go_sem] kZ lg nK nM jW jX lq lu   -- for this text's walks alone
set_option linter.unusedVariables false
set_option maxHeartbeats 8000000
set_option maxRecDepth 100000
set_option linter.unusedSimpArgs false
mutual
def bK.j1 : Nat → ByteArray → Option (ByteArray)
 | 0, _ => none
 | k + 1, x0 => bK.l1 k x0
def bK.l1 : Nat → ByteArray → Option (ByteArray)
 | 0, _ => none
 | k + 1, x0 => if (x0.size : Int) > 0 then (if 0 ≤ (wrap64 ((x0.size : Int) - 1)) then (if (wrap64 ((x0.size : Int) - 1)) < (x0.size : Int) then (if (bt x0 (wrap64 ((x0.size : Int) - 1))) = 32 then (if (wrap64 ((x0.size : Int) - 1)) ≤ (x0.size : Int) then (bK.l1 k (x0.extract 0 ((wrap64 ((x0.size : Int) - 1)) : Int).toNat)) else (none)) else (some x0)) else (none)) else (none)) else (some x0)
def bK.l0 : Nat → ByteArray → Option (ByteArray)
 | 0, _ => none
 | k + 1, x0 => if (x0.size : Int) > 0 then (if 0 < (x0.size : Int) then (if (bt x0 0) = 32 then (if 1 ≤ (x0.size : Int) then (bK.l0 k (x0.extract 1 x0.size)) else (none)) else (bK.j1 k x0)) else (none)) else (bK.j1 k x0)
end
def bK.f (k : Nat) (a0 : ByteArray) : Option (ByteArray) := bK.l0 k a0
theorem bK.calls {k : Nat} {a0 r : ByteArray} {w : World} (h : bK.f k a0 = some r) :
  Calls Tryz.prog 179 #[.string a0] w fun e w' => e = .returned (.string r) ∧ dP w w' := by
 unfold bK.f at h; have H := h
 clear h
 have HC2 := ak H
 clear H
 go_enter Tryz.func179, Tryz.ntmps179
 go_upto_block 0 with (fail)
 go_cut [0] (fun v0 wc => ∃ (kq : Nat) (qJ : ByteArray), v0 = .string qJ ∧ ah (bK.j1 kq qJ = some r) ∧ ah (kq ≤ k) ∧ dP w wc)
 case first =>
  have H := HC2.out
  clear HC2
  have H' := ak H; clear H
  go_wp2
  go_loopg [0] k (fun kq v0 w' => ∃ (qJ : ByteArray), v0 = .string qJ ∧ ah (bK.l0 kq qJ = some r) ∧ ah (kq ≤ k) ∧ dP w w')
  case atStart => exact ⟨_, rs, H', ⟨Nat.le_refl _⟩, dn⟩
  case round =>
   clear H'
   obtain ⟨qJ, rfl, HA, xI, ⟨m1, rfl⟩⟩ := hrel
   cases gk with
   | zero => exact zz HA.out
   | succ k1 =>
    obtain ⟨H⟩ := HA
    simp only [bK.l0] at H
    replace H := sp H
    rcases H with ⟨c3, H⟩ | ⟨c3, H⟩
    ·
     have iO : decide (0 < (qJ.size : Int)) = true := decide_eq_true c3
     have yK : decide (0 < qJ.size) = true := decide_eq_true (by omega)
     clear c3
     (first | rw [iO] | (simp only [iK, jI]; rw [iO]) | skip)
     replace H := nn H; obtain ⟨c4, H⟩ := H
     have qR := decide_eq_true c4
     have Xk : decide (0 < qJ.size) = true := decide_eq_true (by omega)
     clear c4
     replace H := sq H
     rcases H with ⟨nN, wR, H⟩ | ⟨c6, nN, wR, H⟩
     ·
      replace H := yL H; obtain ⟨rF, HY, H⟩ := H
      have H' := ak H; clear H
      have p5 : 0 ≤ (0 : Int) := (by omega)
      have q5 : 0 < qJ.size := (by have : (0 : Int) < (qJ.size : Int) := of_decide_eq_true (by assumption); omega)
      have hx5 : ∀ h : 0 < qJ.size, ((qJ[0]'h).toNat : Int) = bt qJ 0 := vH qJ 0
      clear p5
      have qi5 : (0 < (qJ.size : Int)) = True := eq_true (of_decide_eq_true (by assumption))
      replace q5 := eq_true q5
      go_wp2
      go_roundg k1
      case measure => exact kl
      case rel => exact ⟨_, rs, H', ⟨kl⟩, dn⟩
     ·
      have H' := ak H; clear H
      have p5 : 0 ≤ (0 : Int) := (by omega)
      have q5 : 0 < qJ.size := (by have : (0 : Int) < (qJ.size : Int) := of_decide_eq_true (by assumption); omega)
      have hx5 : ∀ h : 0 < qJ.size, ((qJ[0]'h).toNat : Int) = bt qJ 0 := vH qJ 0
      clear p5
      have qi5 : (0 < (qJ.size : Int)) = True := eq_true (of_decide_eq_true (by assumption))
      replace q5 := eq_true q5
      go_wp2
      go_meet
      case rel => exact ⟨_, _, rs, H', ⟨kl⟩, dn⟩
    ·
     have iO : decide (0 < (qJ.size : Int)) = false := decide_eq_false c3
     have yK : decide (0 < qJ.size) = false := decide_eq_false (by omega)
     clear c3
     (first | rw [iO] | (simp only [iK, jI]; rw [iO]) | skip)
     have H' := ak H; clear H
     go_wp2
     go_meet
     case rel => exact ⟨_, _, rs, H', ⟨kl⟩, dn⟩
 case rest =>
  clear HC2
  obtain ⟨kq, qJ, rfl, HA, HJ1, ⟨mc1, rfl⟩⟩ := hcut
  cases kq with
  | zero => exact zz HA.out
  | succ NK =>
   obtain ⟨H⟩ := HA
   simp only [bK.j1] at H
   have H' := ak H; clear H
   go_wp2
   go_loopg [0] NK (fun kq v0 w' => ∃ (Gx : ByteArray), v0 = .string Gx ∧ ah (bK.l1 kq Gx = some r) ∧ ah (kq ≤ NK) ∧ dP w w')
   case atStart => exact ⟨_, rs, H', ⟨Nat.le_refl _⟩, dn⟩
   case round =>
    clear H'
    obtain ⟨Gx, rfl, HA, MJ, ⟨m2, rfl⟩⟩ := hrel
    cases gk with
    | zero => exact zz HA.out
    | succ k2 =>
     obtain ⟨H⟩ := HA
     simp only [bK.l1] at H
     replace H := sp H
     rcases H with ⟨c8, H⟩ | ⟨c8, H⟩
     ·
      have tX : decide (0 < (Gx.size : Int)) = true := decide_eq_true c8
      have Eu : decide (0 < Gx.size) = true := decide_eq_true (by omega)
      clear c8
      obtain ⟨OV, H8⟩ : ∃ j_ : Int, (wrap64 ((Gx.size : Int) - 1)) = j_ := ⟨_, rfl⟩
      replace H : (if 0 ≤ (OV) then (if (OV) < (Gx.size : Int) then (if (bt Gx (OV)) = 32 then (if (OV) ≤ (Gx.size : Int) then (bK.l1 k2 (Gx.extract 0 ((OV) : Int).toNat)) else (none)) else (some Gx)) else (none)) else (none)) = some r := by first | (rw [H8] at H; exact H) | (simp only [H8] at H ⊢; exact H)
      have ahU : (IntKind.i64.wrap ((Gx.size : Int) - 1)) = OV := (iK _).trans H8
      replace H := oq H; obtain ⟨nY, H⟩ := H; replace H := oq H; obtain ⟨t_, H⟩ := H; replace H := sq H
      rcases H with ⟨vw, zy, H⟩ | ⟨c13, vw, zy, H⟩
      ·
       have sH := eq_true (of_decide_eq_true (by assumption) : 0 ≤ (OV))
       replace H := yL H; obtain ⟨vC, ER, H⟩ := H
       have H' := ak H; clear H
       obtain ⟨p12, q12, amg⟩ := bx Gx (OV)
       go_wp2
       go_roundg k2
       case measure => exact kl
       case rel => exact ⟨_, (by first | rfl | (simp; done) | (simp only [← H8] <;> (first | rfl | simp)) | (simp [*]; done)), H', ⟨kl⟩, dn⟩
      ·
       obtain rfl := s1 H
       obtain ⟨p12, q12, amg⟩ := bx Gx (OV)
       go_wp2
       go_ret
       exact ⟨by first | rfl | (simp; done) | (simp only [← H8] <;> (first | rfl | simp)) | (simp [*]; done), dn⟩
     ·
      have tX : decide (0 < (Gx.size : Int)) = false := decide_eq_false c8
      have Eu : decide (0 < Gx.size) = false := decide_eq_false (by omega)
      clear c8
      obtain rfl := s1 H
      go_wp2
      go_ret
      exact ⟨rs, dn⟩
def gJ.f (a0 : Int) : Option (Bool) := if a0 ≥ 97 then (if a0 ≤ 122 then (some true) else (if a0 ≥ 65 then (if a0 ≤ 90 then (some true) else (if a0 ≥ 48 then (some (decide (a0 ≤ 57))) else (some false))) else (if a0 ≥ 48 then (some (decide (a0 ≤ 57))) else (some false)))) else (if a0 ≥ 65 then (if a0 ≤ 90 then (some true) else (if a0 ≥ 48 then (some (decide (a0 ≤ 57))) else (some false))) else (if a0 ≥ 48 then (some (decide (a0 ≤ 57))) else (some false)))
theorem gJ.calls {a0 : Int} {r : Bool} {w : World} (h : gJ.f a0 = some r) :
  Calls Tryz.prog 183 #[.int .u8 a0] w fun e w' => e = .returned (.bool r) ∧ dP w w' := by
 unfold gJ.f at h; have H := h
 clear h
 replace H := sp H
 rcases H with ⟨c2, H⟩ | ⟨c2, H⟩
 ·
  have ou : decide (97 ≤ a0) = true := decide_eq_true c2
  clear c2
  replace H := sd H
  rcases H with ⟨iO, H⟩ | ⟨iO, H⟩
  ·
   obtain rfl := s1 H
   go_enter Tryz.func183, Tryz.ntmps183
   go_wp2
   go_ret
   exact ⟨rs, dn⟩
  ·
   replace H := sp H
   rcases H with ⟨c4, H⟩ | ⟨c4, H⟩
   ·
    have qR : decide (65 ≤ a0) = true := decide_eq_true c4
    clear c4
    replace H := sd H
    rcases H with ⟨mW, H⟩ | ⟨mW, H⟩
    ·
     obtain rfl := s1 H
     go_enter Tryz.func183, Tryz.ntmps183
     go_wp2
     go_ret
     exact ⟨rs, dn⟩
    ·
     replace H := sp H
     rcases H with ⟨c6, H⟩ | ⟨c6, H⟩
     ·
      have nN : decide (48 ≤ a0) = true := decide_eq_true c6
      clear c6
      obtain rfl := s1 H
      go_enter Tryz.func183, Tryz.ntmps183
      go_wp2
      go_ret
      exact ⟨rs, dn⟩
     ·
      have nN : decide (48 ≤ a0) = false := decide_eq_false c6
      clear c6
      obtain rfl := s1 H
      go_enter Tryz.func183, Tryz.ntmps183
      go_wp2
      go_ret
      exact ⟨rs, dn⟩
   ·
    have qR : decide (65 ≤ a0) = false := decide_eq_false c4
    clear c4
    replace H := sp H
    rcases H with ⟨c7, H⟩ | ⟨c7, H⟩
    ·
     have rF : decide (48 ≤ a0) = true := decide_eq_true c7
     clear c7
     obtain rfl := s1 H
     go_enter Tryz.func183, Tryz.ntmps183
     go_wp2
     go_ret
     exact ⟨rs, dn⟩
    ·
     have rF : decide (48 ≤ a0) = false := decide_eq_false c7
     clear c7
     obtain rfl := s1 H
     go_enter Tryz.func183, Tryz.ntmps183
     go_wp2
     go_ret
     exact ⟨rs, dn⟩
 ·
  have ou : decide (97 ≤ a0) = false := decide_eq_false c2
  clear c2
  replace H := sp H
  rcases H with ⟨c8, H⟩ | ⟨c8, H⟩
  ·
   have tX : decide (65 ≤ a0) = true := decide_eq_true c8
   clear c8
   replace H := sd H
   rcases H with ⟨xY, H⟩ | ⟨xY, H⟩
   ·
    obtain rfl := s1 H
    go_enter Tryz.func183, Tryz.ntmps183
    go_wp2
    go_ret
    exact ⟨rs, dn⟩
   ·
    replace H := sp H
    rcases H with ⟨c10, H⟩ | ⟨c10, H⟩
    ·
     have nY : decide (48 ≤ a0) = true := decide_eq_true c10
     clear c10
     obtain rfl := s1 H
     go_enter Tryz.func183, Tryz.ntmps183
     go_wp2
     go_ret
     exact ⟨rs, dn⟩
    ·
     have nY : decide (48 ≤ a0) = false := decide_eq_false c10
     clear c10
     obtain rfl := s1 H
     go_enter Tryz.func183, Tryz.ntmps183
     go_wp2
     go_ret
     exact ⟨rs, dn⟩
  ·
   have tX : decide (65 ≤ a0) = false := decide_eq_false c8
   clear c8
   replace H := sp H
   rcases H with ⟨c11, H⟩ | ⟨c11, H⟩
   ·
    have t_ : decide (48 ≤ a0) = true := decide_eq_true c11
    clear c11
    obtain rfl := s1 H
    go_enter Tryz.func183, Tryz.ntmps183
    go_wp2
    go_ret
    exact ⟨rs, dn⟩
   ·
    have t_ : decide (48 ≤ a0) = false := decide_eq_false c11
    clear c11
    obtain rfl := s1 H
    go_enter Tryz.func183, Tryz.ntmps183
    go_wp2
    go_ret
    exact ⟨rs, dn⟩
mutual
def bP.l0 : Nat → ByteArray → Int → Option (Bool)
 | 0, _, _ => none
 | k + 1, x0, x3 => if x3 < (x0.size : Int) then (bP.j1 k x0 x3 (decide (x3 ≤ 30))) else (bP.j1 k x0 x3 false)
def bP.j1 : Nat → ByteArray → Int → Bool → Option (Bool)
 | 0, _, _, _ => none
 | k + 1, x0, x3, x11 => if x11 = true then (if 0 ≤ x3 then (if x3 < (x0.size : Int) then ((gJ.f (bt x0 x3)).bind fun t117 => (if t117 = true then (if x3 = 0 then (if (bt x0 x3) ≤ 57 then (some false) else (bP.l0 k x0 (wrap64 (x3 + 1)))) else (bP.l0 k x0 (wrap64 (x3 + 1)))) else (if (bt x0 x3) = 45 then (if x3 = 0 then (if (bt x0 x3) ≤ 57 then (some false) else (bP.l0 k x0 (wrap64 (x3 + 1)))) else (bP.l0 k x0 (wrap64 (x3 + 1)))) else (some false)))) else (none)) else (none)) else (if (x0.size : Int) ≥ 1 then (some (decide ((x0.size : Int) ≤ 30))) else (some false))
end
def bP.f (k : Nat) (a0 : ByteArray) : Option (Bool) := bP.l0 k a0 0
theorem bP.calls {k : Nat} {a0 : ByteArray} {r : Bool} {w : World} (h : bP.f k a0 = some r) :
  Calls Tryz.prog 184 #[.string a0] w fun e w' => e = .returned (.bool r) ∧ dP w w' := by
 unfold bP.f at h; have H := h
 clear h
 have H' := ak H; clear H
 go_enter Tryz.func184, Tryz.ntmps184
 go_wp2
 go_loopg [3] k (fun kq v3 w' => ∃ (dW : Int), v3 = .int .i64 dW ∧ ah (bP.l0 kq a0 dW = some r) ∧ ah (kq ≤ k) ∧ dP w w')
 case atStart => exact ⟨_, rs, H', ⟨Nat.le_refl _⟩, dn⟩
 case round =>
  clear H'
  obtain ⟨dW, rfl, HA, xI, ⟨m1, rfl⟩⟩ := hrel
  cases gk with
  | zero => exact zz HA.out
  | succ k1 =>
   obtain ⟨H⟩ := HA
   simp only [bP.l0] at H
   have HC2 := ak H
   clear H
   go_upto_region 2 with (fail)
   go_cut [11] (fun v11 wc => ∃ (kq : Nat) (uq : Bool), v11 = .bool uq ∧ ah (bP.j1 kq a0 dW uq = some r) ∧ ah (kq ≤ k1) ∧ dP w wc)
   case first =>
    have H := HC2.out
    clear HC2
    replace H := sd H
    rcases H with ⟨iO, H⟩ | ⟨iO, H⟩
    ·
     (first | rw [iO] | (simp only [iK, jI]; rw [iO]) | skip)
     have H' := ak H; clear H
     go_wp2
     go_meet
     case rel => exact ⟨_, _, rs, H', ⟨kl⟩, dn⟩
    ·
     (first | rw [iO] | (simp only [iK, jI]; rw [iO]) | skip)
     have H' := ak H; clear H
     go_wp2
     go_meet
     case rel => exact ⟨_, _, rs, H', ⟨kl⟩, dn⟩
   case rest =>
    clear HC2
    obtain ⟨kq, uq, rfl, HA, HJ1, ⟨mc1, rfl⟩⟩ := hcut
    cases kq with
    | zero => exact zz HA.out
    | succ NK =>
     obtain ⟨H⟩ := HA
     simp only [bP.j1] at H
     replace H := sb H
     rcases H with ⟨rfl, H⟩ | ⟨rfl, H⟩
     ·
      replace H := oq H; obtain ⟨mW, H⟩ := H; replace H := oq H; obtain ⟨nN, H⟩ := H; replace H := bd H; obtain ⟨t117, A8, H⟩ := H; replace H := sb H
      rcases H with ⟨rfl, H⟩ | ⟨rfl, H⟩
      ·
       replace H := sq H
       rcases H with ⟨nY, rX, H⟩ | ⟨c10, nY, rX, H⟩
       ·
        replace H := sd H
        rcases H with ⟨wU, H⟩ | ⟨wU, H⟩
        ·
         obtain rfl := s1 H
         obtain ⟨p7, q7, hx7⟩ := bx a0 dW
         go_wp2_with (refine gA Tryz.func183 (gJ.calls A8.out) ?_; intro nd; have p11 : 0 ≤ (dW : Int) := of_decide_eq_true (by assumption); have q11 : dW < (a0.size : Int) := of_decide_eq_true (by assumption); have Vk := vH a0 dW; replace p11 := eq_true p11; replace q11 := eq_true q11)
         go_ret
         exact ⟨rs, dn⟩
        ·
         have H' := ak H; clear H
         obtain ⟨p7, q7, hx7⟩ := bx a0 dW
         go_wp2_with (refine gA Tryz.func183 (gJ.calls A8.out) ?_; intro nd; have p11 : 0 ≤ (dW : Int) := of_decide_eq_true (by assumption); have q11 : dW < (a0.size : Int) := of_decide_eq_true (by assumption); have Vk := vH a0 dW; replace p11 := eq_true p11; replace q11 := eq_true q11)
         go_roundg NK
         case measure => exact kl
         case rel => exact ⟨_, rs, H', ⟨kl⟩, dn⟩
       ·
        have H' := ak H; clear H
        obtain ⟨p7, q7, hx7⟩ := bx a0 dW
        go_wp2_with (refine gA Tryz.func183 (gJ.calls A8.out) ?_; intro nd)
        go_roundg NK
        case measure => exact kl
        case rel => exact ⟨_, rs, H', ⟨kl⟩, dn⟩
      ·
       replace H := sq H
       rcases H with ⟨sH, wS, H⟩ | ⟨c14, sH, wS, H⟩
       ·
        replace H := sq H
        rcases H with ⟨vC, ER, H⟩ | ⟨c15, vC, ER, H⟩
        ·
         replace H := sd H
         rcases H with ⟨sJ, H⟩ | ⟨sJ, H⟩
         ·
          obtain rfl := s1 H
          obtain ⟨p7, q7, hx7⟩ := bx a0 dW
          go_wp2_with (refine gA Tryz.func183 (gJ.calls A8.out) ?_; intro nd; have p13 : 0 ≤ (dW : Int) := of_decide_eq_true (by assumption); have q13 : dW < (a0.size : Int) := of_decide_eq_true (by assumption); have Xz := vH a0 dW; replace p13 := eq_true p13; replace q13 := eq_true q13; have p16 : 0 ≤ (dW : Int) := of_decide_eq_true (by assumption); have q16 : dW < (a0.size : Int) := of_decide_eq_true (by assumption); have hx16 := vH a0 dW; replace p16 := eq_true p16; replace q16 := eq_true q16)
          go_ret
          exact ⟨rs, dn⟩
         ·
          have H' := ak H; clear H
          obtain ⟨p7, q7, hx7⟩ := bx a0 dW
          go_wp2_with (refine gA Tryz.func183 (gJ.calls A8.out) ?_; intro nd; have p13 : 0 ≤ (dW : Int) := of_decide_eq_true (by assumption); have q13 : dW < (a0.size : Int) := of_decide_eq_true (by assumption); have Xz := vH a0 dW; replace p13 := eq_true p13; replace q13 := eq_true q13; have p16 : 0 ≤ (dW : Int) := of_decide_eq_true (by assumption); have q16 : dW < (a0.size : Int) := of_decide_eq_true (by assumption); have hx16 := vH a0 dW; replace p16 := eq_true p16; replace q16 := eq_true q16)
          go_roundg NK
          case measure => exact kl
          case rel => exact ⟨_, rs, H', ⟨kl⟩, dn⟩
        ·
         have H' := ak H; clear H
         obtain ⟨p7, q7, hx7⟩ := bx a0 dW
         go_wp2_with (refine gA Tryz.func183 (gJ.calls A8.out) ?_; intro nd; have p13 : 0 ≤ (dW : Int) := of_decide_eq_true (by assumption); have q13 : dW < (a0.size : Int) := of_decide_eq_true (by assumption); have Xz := vH a0 dW; replace p13 := eq_true p13; replace q13 := eq_true q13)
         go_roundg NK
         case measure => exact kl
         case rel => exact ⟨_, rs, H', ⟨kl⟩, dn⟩
       ·
        obtain rfl := s1 H
        obtain ⟨p7, q7, hx7⟩ := bx a0 dW
        go_wp2_with (refine gA Tryz.func183 (gJ.calls A8.out) ?_; intro nd; have p13 : 0 ≤ (dW : Int) := of_decide_eq_true (by assumption); have q13 : dW < (a0.size : Int) := of_decide_eq_true (by assumption); have Xz := vH a0 dW; replace p13 := eq_true p13; replace q13 := eq_true q13)
        go_ret
        exact ⟨rs, dn⟩
     ·
      replace H := sp H
      rcases H with ⟨c18, H⟩ | ⟨c18, H⟩
      ·
       have vF : decide (1 ≤ (a0.size : Int)) = true := decide_eq_true c18
       have I9 : decide (1 ≤ a0.size) = true := decide_eq_true (by omega)
       clear c18
       obtain rfl := s1 H
       go_wp2
       go_ret
       exact ⟨rs, dn⟩
      ·
       have vF : decide (1 ≤ (a0.size : Int)) = false := decide_eq_false c18
       have I9 : decide (1 ≤ a0.size) = false := decide_eq_false (by omega)
       clear c18
       obtain rfl := s1 H
       go_wp2
       go_ret
       exact ⟨rs, dn⟩
def je.f (k : Nat) (eG : ByteArray) (eU : ByteArray) : Option (Bool) := (bP.f k eG).bind fun t119 => (if t119 = true then ((aQ.f k eU).bind fun aru => (if aru = true then (if (eU.size : Int) ≤ 150 then ((bK.f k eU).bind fun arv => (some (arv.toList == eU.toList))) else (some false)) else (some false))) else (some false))
theorem je.calls {k : Nat} {eG eU : ByteArray} {r : Bool} {w : World} (h : je.f k eG eU = some r) :
  Calls Tryz.prog 158 #[.agg #[.string eG, .string eU]] w fun e w' => e = .returned (.bool r) ∧ Below w.heap.size w w' := by
 have Dn := Tryz.underlying69
 have HB := ak (Below.refl w.heap.size w)
 unfold je.f at h; have H := h
 clear h
 replace H := bd H; obtain ⟨t119, A2, H⟩ := H; replace H := sb H
 rcases H with ⟨rfl, H⟩ | ⟨rfl, H⟩
 ·
  replace H := bd H; obtain ⟨aru, A4, H⟩ := H; replace H := sb H
  rcases H with ⟨rfl, H⟩ | ⟨rfl, H⟩
  ·
   replace H := sp H
   rcases H with ⟨c6, H⟩ | ⟨c6, H⟩
   ·
    have nN := decide_eq_true c6
    have wR : decide (eU.size ≤ 150) = true := decide_eq_true (by omega)
    clear c6
    replace H := bd H; obtain ⟨arv, A7, H⟩ := H
    obtain rfl := s1 H
    go_enter Tryz.func158, Tryz.ntmps158
    go_wp2_with (first | (refine gG 1 ?_; refine bX HB 1 #[.string eG, .string eU] 69 ?_; intro EZ w8 uK E5 hb; replace HB := bs HB hb; clear hb; have z9 := zC uK.out) | (go_at_call 184; refine mA (bP.calls A2.out) ?_; intro nd; (try exact dq)) | (go_at_call 159; refine mA (aQ.calls A4.out) ?_; intro nd; (try exact dq)) | (go_at_call 179; refine mA (bK.calls A7.out) ?_; intro nd; (try exact dq)))
    repeat (go_quiet (first | (refine gG 1 ?_; refine bX HB 1 #[.string eG, .string eU] 69 ?_; intro EZ w8 uK E5 hb; replace HB := bs HB hb; clear hb; have z9 := zC uK.out) | (go_at_call 184; refine mA (bP.calls A2.out) ?_; intro nd; (try exact dq)) | (go_at_call 159; refine mA (aQ.calls A4.out) ?_; intro nd; (try exact dq)) | (go_at_call 179; refine mA (bK.calls A7.out) ?_; intro nd; (try exact dq))); try go_wp2_with (first | (refine gG 1 ?_; refine bX HB 1 #[.string eG, .string eU] 69 ?_; intro EZ w8 uK E5 hb; replace HB := bs HB hb; clear hb; have z9 := zC uK.out) | (go_at_call 184; refine mA (bP.calls A2.out) ?_; intro nd; (try exact dq)) | (go_at_call 159; refine mA (aQ.calls A4.out) ?_; intro nd; (try exact dq)) | (go_at_call 179; refine mA (bK.calls A7.out) ?_; intro nd; (try exact dq))))
    go_ret
    exact ⟨er, bb⟩
   ·
    have nN := decide_eq_false c6
    have wR : decide (eU.size ≤ 150) = false := decide_eq_false (by omega)
    clear c6
    obtain rfl := s1 H
    go_enter Tryz.func158, Tryz.ntmps158
    go_wp2_with (first | (refine gG 1 ?_; refine bX HB 1 #[.string eG, .string eU] 69 ?_; intro EZ w10 uK E5 hb; replace HB := bs HB hb; clear hb; have z11 := zC uK.out) | (go_at_call 184; refine mA (bP.calls A2.out) ?_; intro nd; (try exact dq)) | (go_at_call 159; refine mA (aQ.calls A4.out) ?_; intro nd; (try exact dq)))
    repeat (go_quiet (first | (refine gG 1 ?_; refine bX HB 1 #[.string eG, .string eU] 69 ?_; intro EZ w10 uK E5 hb; replace HB := bs HB hb; clear hb; have z11 := zC uK.out) | (go_at_call 184; refine mA (bP.calls A2.out) ?_; intro nd; (try exact dq)) | (go_at_call 159; refine mA (aQ.calls A4.out) ?_; intro nd; (try exact dq))); try go_wp2_with (first | (refine gG 1 ?_; refine bX HB 1 #[.string eG, .string eU] 69 ?_; intro EZ w10 uK E5 hb; replace HB := bs HB hb; clear hb; have z11 := zC uK.out) | (go_at_call 184; refine mA (bP.calls A2.out) ?_; intro nd; (try exact dq)) | (go_at_call 159; refine mA (aQ.calls A4.out) ?_; intro nd; (try exact dq))))
    go_ret
    exact ⟨er, bb⟩
  ·
   obtain rfl := s1 H
   go_enter Tryz.func158, Tryz.ntmps158
   go_wp2_with (first | (refine gG 1 ?_; refine bX HB 1 #[.string eG, .string eU] 69 ?_; intro EZ w12 uK E5 hb; replace HB := bs HB hb; clear hb; have z13 := zC uK.out) | (go_at_call 184; refine mA (bP.calls A2.out) ?_; intro nd; (try exact dq)) | (go_at_call 159; refine mA (aQ.calls A4.out) ?_; intro nd; (try exact dq)))
   repeat (go_quiet (first | (refine gG 1 ?_; refine bX HB 1 #[.string eG, .string eU] 69 ?_; intro EZ w12 uK E5 hb; replace HB := bs HB hb; clear hb; have z13 := zC uK.out) | (go_at_call 184; refine mA (bP.calls A2.out) ?_; intro nd; (try exact dq)) | (go_at_call 159; refine mA (aQ.calls A4.out) ?_; intro nd; (try exact dq))); try go_wp2_with (first | (refine gG 1 ?_; refine bX HB 1 #[.string eG, .string eU] 69 ?_; intro EZ w12 uK E5 hb; replace HB := bs HB hb; clear hb; have z13 := zC uK.out) | (go_at_call 184; refine mA (bP.calls A2.out) ?_; intro nd; (try exact dq)) | (go_at_call 159; refine mA (aQ.calls A4.out) ?_; intro nd; (try exact dq))))
   go_ret
   exact ⟨er, bb⟩
 ·
  obtain rfl := s1 H
  go_enter Tryz.func158, Tryz.ntmps158
  go_wp2_with (first | (refine gG 1 ?_; refine bX HB 1 #[.string eG, .string eU] 69 ?_; intro EZ SS uK E5 hb; replace HB := bs HB hb; clear hb; have z15 := zC uK.out) | (go_at_call 184; refine mA (bP.calls A2.out) ?_; intro nd; (try exact dq)))
  repeat (go_quiet (first | (refine gG 1 ?_; refine bX HB 1 #[.string eG, .string eU] 69 ?_; intro EZ SS uK E5 hb; replace HB := bs HB hb; clear hb; have z15 := zC uK.out) | (go_at_call 184; refine mA (bP.calls A2.out) ?_; intro nd; (try exact dq))); try go_wp2_with (first | (refine gG 1 ?_; refine bX HB 1 #[.string eG, .string eU] 69 ?_; intro EZ SS uK E5 hb; replace HB := bs HB hb; clear hb; have z15 := zC uK.out) | (go_at_call 184; refine mA (bP.calls A2.out) ?_; intro nd; (try exact dq))))
  go_ret
  exact ⟨er, bb⟩
def gK.l0 : Nat → ByteArray → Int → Option (Bool)
 | 0, _, _ => none
 | k + 1, x0, x3 => if (wrap64 (x3 + 1)) < (x0.size : Int) then (if 0 ≤ x3 then (if x3 < (x0.size : Int) then (if (bt x0 x3) = 61 then (if 0 ≤ (wrap64 (x3 + 1)) then (if (bt x0 (wrap64 (x3 + 1))) = 63 then (some true) else (gK.l0 k x0 (wrap64 (x3 + 1)))) else (none)) else (gK.l0 k x0 (wrap64 (x3 + 1)))) else (none)) else (none)) else ((aQ.f k x0).bind fun arw => (if arw = true then ((bK.f k x0).bind fun arx => (if arx.toList = x0.toList then (some (decide ((x0.size : Int) > 120))) else (some true))) else (some true)))
def gK.f (k : Nat) (a0 : ByteArray) : Option (Bool) := gK.l0 k a0 0
theorem gK.calls {k : Nat} {a0 : ByteArray} {r : Bool} {w : World} (h : gK.f k a0 = some r) :
  Calls Tryz.prog 207 #[.string a0] w fun e w' => e = .returned (.bool r) ∧ dP w w' := by
 unfold gK.f at h; have H := h
 clear h
 have H' := ak H; clear H
 go_enter Tryz.func207, Tryz.ntmps207
 go_wp2
 go_loopg [3] k (fun kq v3 w' => ∃ (dW : Int), v3 = .int .i64 dW ∧ ah (gK.l0 kq a0 dW = some r) ∧ ah (kq ≤ k) ∧ dP w w')
 case atStart => exact ⟨_, rs, H', ⟨Nat.le_refl _⟩, dn⟩
 case round =>
  clear H'
  obtain ⟨dW, rfl, HA, xI, ⟨m1, rfl⟩⟩ := hrel
  cases gk with
  | zero => exact zz HA.out
  | succ k1 =>
   obtain ⟨H⟩ := HA
   simp only [gK.l0] at H
   replace H := sp H
   rcases H with ⟨c2, H⟩ | ⟨c2, H⟩
   ·
    have ou := decide_eq_true c2
    (try (have vK : decide ((dW + 1) < (a0.size : Int)) = true := decide_eq_true (by have h_ := c2; unfold wrap64 at h_; omega)))
    clear c2
    replace H := oq H; obtain ⟨iO, H⟩ := H; replace H := oq H; obtain ⟨qR, H⟩ := H; replace H := sq H
    rcases H with ⟨nN, wR, H⟩ | ⟨c6, nN, wR, H⟩
    ·
     obtain ⟨ji7, NU⟩ : ∃ j_ : Int, (wrap64 (dW + 1)) = j_ := ⟨_, rfl⟩
     replace H : (if 0 ≤ (ji7) then (if (bt a0 (ji7)) = 63 then (some true) else (gK.l0 k1 a0 ji7)) else (none)) = some r := by first | (rw [NU] at H; exact H) | (simp only [NU] at H ⊢; exact H)
     (try rw [NU] at ou)
     have arz : (IntKind.i64.wrap (dW + 1)) = ji7 := (iK _).trans NU
     replace H := oq H; obtain ⟨tX, H⟩ := H; replace H := sq H
     rcases H with ⟨nY, rX, H⟩ | ⟨c10, nY, rX, H⟩
     ·
      obtain rfl := s1 H
      obtain ⟨p5, q5, hx5⟩ := bx a0 dW
      obtain ⟨p9, q9, YO⟩ := bx a0 (ji7)
      go_wp2
      go_ret
      exact ⟨by first | rfl | (simp; done) | (simp only [← NU] <;> (first | rfl | simp)) | (simp [*]; done), dn⟩
     ·
      have H' := ak H; clear H
      obtain ⟨p5, q5, hx5⟩ := bx a0 dW
      obtain ⟨p9, q9, YO⟩ := bx a0 (ji7)
      go_wp2
      go_roundg k1
      case measure => exact kl
      case rel => exact ⟨_, (by first | rfl | (simp; done) | (simp only [← NU] <;> (first | rfl | simp)) | (simp [*]; done)), H', ⟨kl⟩, dn⟩
    ·
     have H' := ak H; clear H
     obtain ⟨p5, q5, hx5⟩ := bx a0 dW
     go_wp2
     go_roundg k1
     case measure => exact kl
     case rel => exact ⟨_, rs, H', ⟨kl⟩, dn⟩
   ·
    have ou := decide_eq_false c2
    (try (have vK : decide ((dW + 1) < (a0.size : Int)) = false := decide_eq_false (by have h_ := c2; unfold wrap64 at h_; omega)))
    clear c2
    replace H := bd H; obtain ⟨arw, Zg, H⟩ := H; replace H := sb H
    rcases H with ⟨rfl, H⟩ | ⟨rfl, H⟩
    ·
     replace H := bd H; obtain ⟨arx, A13, H⟩ := H; replace H := sq H
     rcases H with ⟨sH, wS, H⟩ | ⟨c14, sH, wS, H⟩
     ·
      obtain rfl := s1 H
      go_wp2_with (first | (refine gA Tryz.func159 (aQ.calls Zg.out) ?_; intro nd) | (go_at_call 179; refine mA (bK.calls A13.out) ?_; intro nd))
      go_ret
      exact ⟨rs, dn⟩
     ·
      obtain rfl := s1 H
      go_wp2_with (first | (refine gA Tryz.func159 (aQ.calls Zg.out) ?_; intro nd) | (go_at_call 179; refine mA (bK.calls A13.out) ?_; intro nd))
      go_ret
      exact ⟨rs, dn⟩
    ·
     obtain rfl := s1 H
     go_wp2_with (refine gA Tryz.func159 (aQ.calls Zg.out) ?_; intro nd)
     go_ret
     exact ⟨rs, dn⟩
end Go.Proofs.YtncdadcmghglkaaGreatDoor.PFnPartLines
