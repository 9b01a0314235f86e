/- Printed walks; conditions: those in each statement. -/
import Derived.Test.YtncdadcmghglkaaGreatDoorVFnKidValidQt
import Derived.Test.YtncdadcmghglkaaGreatDoorVFnKidValidYt
import Derived.Test.YtncdadcmghglkaaGreatDoorPFnKidValidx0
-- short
-- dense
-- sq
-- sq2
namespace Go.Proofs.YtncdadcmghglkaaGreatDoor.PFnKidValid
open Go.RowKit Go.Proofs.YtncdadcmghglkaaGreatDoor.X Go.Proofs.YtncdadcmghglkaaGreatDoorW.bI Go.Proofs.YtncdadcmghglkaaGreatDoorW.gq Go.Proofs.YtncdadcmghglkaaGreatDoorW.iJ
attribute [local go_sem] kJ kK mD mF jv jw kL kM   -- for this text's walks alone
set_option linter.unusedVariables false
set_option maxHeartbeats 8000000
set_option maxRecDepth 100000
set_option linter.unusedSimpArgs false
mutual
def aQ.l0 : Nat → ByteArray → Int → Option (Bool)
 | 0, _, _ => none
 | k + 1, x0, x3 => if x3 < (x0.size : Int) then (aQ.j1 k x0 x3 (decide (x3 ≤ 200))) else (aQ.j1 k x0 x3 false)
def aQ.j1 : Nat → ByteArray → Int → Bool → Option (Bool)
 | 0, _, _, _ => none
 | k + 1, x0, x3, x11 => if x11 = true then (if 0 ≤ x3 then (if x3 < (x0.size : Int) then (if (bt x0 x3) < 32 then (some false) else (if (bt x0 x3) > 126 then (some false) else (aQ.l0 k x0 (wrap64 (x3 + 1))))) else (none)) else (none)) else (some (decide ((x0.size : Int) ≤ 200)))
end
def aQ.f (k : Nat) (a0 : ByteArray) : Option (Bool) := aQ.l0 k a0 0
theorem aQ.calls {k : Nat} {a0 : ByteArray} {r : Bool} {w : World} (h : aQ.f k a0 = some r) :
  Calls Tryz.prog 159 #[.string a0] w fun e w' => e = .returned (.bool r) ∧ dS w w' := by
 unfold aQ.f at h; have H := h
 clear h
 have H' := ak H; clear H
 go_enter Tryz.func159, Tryz.ntmps159
 go_wp2
 go_loopg [3] k (fun kq v3 w' => ∃ (dM : Int), v3 = .int .i64 dM ∧ ah (aQ.l0 kq a0 dM = some r) ∧ ah (kq ≤ k) ∧ dS w w')
 case atStart => exact ⟨_, rs, H', ⟨Nat.le_refl _⟩, dn⟩
 case round =>
  clear H'
  obtain ⟨dM, rfl, HA, xG, ⟨m1, rfl⟩⟩ := hrel
  cases gk with
  | zero => exact zz HA.out
  | succ k1 =>
   obtain ⟨H⟩ := HA
   simp only [aQ.l0] at H
   have HC2 := ak H
   clear H
   go_upto_region 2 with (fail)
   go_cut [11] (fun v11 wc => ∃ (kq : Nat) (uU : Bool), v11 = .bool uU ∧ ah (aQ.j1 kq a0 dM uU = some r) ∧ ah (kq ≤ k1) ∧ dS w wc)
   case first =>
    have H := HC2.out
    clear HC2
    replace H := sd H
    rcases H with ⟨iO, H⟩ | ⟨iO, H⟩
    ·
     (first | rw [iO] | (simp only [dP, fG]; rw [iO]) | skip)
     have H' := ak H; clear H
     go_wp2
     go_meet
     case rel => exact ⟨_, _, rs, H', ⟨kl⟩, dn⟩
    ·
     (first | rw [iO] | (simp only [dP, fG]; rw [iO]) | skip)
     have H' := ak H; clear H
     go_wp2
     go_meet
     case rel => exact ⟨_, _, rs, H', ⟨kl⟩, dn⟩
   case rest =>
    clear HC2
    obtain ⟨kq, uU, rfl, HA, HJ1, ⟨mc1, rfl⟩⟩ := hcut
    cases kq with
    | zero => exact zz HA.out
    | succ Ox =>
     obtain ⟨H⟩ := HA
     simp only [aQ.j1] at H
     replace H := sb H
     rcases H with ⟨rfl, H⟩ | ⟨rfl, H⟩
     ·
      replace H := oL H; obtain ⟨nO, H⟩ := H; replace H := oL H; obtain ⟨oz, H⟩ := H; replace H := sd H
      rcases H with ⟨tu, H⟩ | ⟨tu, H⟩
      ·
       obtain rfl := s1 H
       obtain ⟨p7, q7, hx7⟩ := bx a0 dM
       go_wp2
       go_ret
       exact ⟨rs, dn⟩
      ·
       replace H := sp H
       rcases H with ⟨c10, H⟩ | ⟨c10, H⟩
       ·
        have oC : decide (126 < (bt a0 dM)) = true := decide_eq_true c10
        clear c10
        obtain rfl := s1 H
        obtain ⟨p7, q7, hx7⟩ := bx a0 dM
        obtain ⟨p9, q9, Zv⟩ := bx a0 dM
        go_wp2
        go_ret
        exact ⟨rs, dn⟩
       ·
        have oC : decide (126 < (bt a0 dM)) = false := decide_eq_false c10
        clear c10
        have H' := ak H; clear H
        obtain ⟨p7, q7, hx7⟩ := bx a0 dM
        obtain ⟨p9, q9, Zv⟩ := bx a0 dM
        go_wp2
        go_roundg Ox
        case measure => exact kl
        case rel => exact ⟨_, rs, H', ⟨kl⟩, dn⟩
     ·
      obtain rfl := s1 H
      go_wp2
      go_ret
      exact ⟨rs, dn⟩
mutual
def bP.j1 : Nat → ByteArray → Option (ByteArray)
 | 0, _ => none
 | k + 1, x0 => bP.l1 k x0
def bP.l1 : Nat → ByteArray → Option (ByteArray)
 | 0, _ => none
 | k + 1, x0 => if (x0.size : Int) > 0 then (if 0 ≤ (wrap64 ((x0.size : Int) - 1)) then (if (wrap64 ((x0.size : Int) - 1)) < (x0.size : Int) then (if (bt x0 (wrap64 ((x0.size : Int) - 1))) = 32 then (if (wrap64 ((x0.size : Int) - 1)) ≤ (x0.size : Int) then (bP.l1 k (x0.extract 0 ((wrap64 ((x0.size : Int) - 1)) : Int).toNat)) else (none)) else (some x0)) else (none)) else (none)) else (some x0)
def bP.l0 : Nat → ByteArray → Option (ByteArray)
 | 0, _ => none
 | k + 1, x0 => if (x0.size : Int) > 0 then (if 0 < (x0.size : Int) then (if (bt x0 0) = 32 then (if 1 ≤ (x0.size : Int) then (bP.l0 k (x0.extract 1 x0.size)) else (none)) else (bP.j1 k x0)) else (none)) else (bP.j1 k x0)
end
def bP.f (k : Nat) (a0 : ByteArray) : Option (ByteArray) := bP.l0 k a0
theorem bP.calls {k : Nat} {a0 r : ByteArray} {w : World} (h : bP.f k a0 = some r) :
  Calls Tryz.prog 179 #[.string a0] w fun e w' => e = .returned (.string r) ∧ dS w w' := by
 unfold bP.f at h; have H := h
 clear h
 have HC2 := ak H
 clear H
 go_enter Tryz.func179, Tryz.ntmps179
 go_upto_block 0 with (fail)
 go_cut [0] (fun v0 wc => ∃ (kq : Nat) (qP : ByteArray), v0 = .string qP ∧ ah (bP.j1 kq qP = some r) ∧ ah (kq ≤ k) ∧ dS w wc)
 case first =>
  have H := HC2.out
  clear HC2
  have H' := ak H; clear H
  go_wp2
  go_loopg [0] k (fun kq v0 w' => ∃ (qP : ByteArray), v0 = .string qP ∧ ah (bP.l0 kq qP = some r) ∧ ah (kq ≤ k) ∧ dS w w')
  case atStart => exact ⟨_, rs, H', ⟨Nat.le_refl _⟩, dn⟩
  case round =>
   clear H'
   obtain ⟨qP, rfl, HA, xG, ⟨m1, rfl⟩⟩ := hrel
   cases gk with
   | zero => exact zz HA.out
   | succ k1 =>
    obtain ⟨H⟩ := HA
    simp only [bP.l0] at H
    replace H := sp H
    rcases H with ⟨c3, H⟩ | ⟨c3, H⟩
    ·
     have iO : decide (0 < (qP.size : Int)) = true := decide_eq_true c3
     have Au : decide (0 < qP.size) = true := decide_eq_true (by omega)
     clear c3
     (first | rw [iO] | (simp only [dP, fG]; rw [iO]) | skip)
     replace H := nn H; obtain ⟨c4, H⟩ := H
     have su := decide_eq_true c4
     have XW : decide (0 < qP.size) = true := decide_eq_true (by omega)
     clear c4
     replace H := sq H
     rcases H with ⟨oz, xH, H⟩ | ⟨c6, oz, xH, H⟩
     ·
      replace H := Ac H; obtain ⟨sD, Mc, H⟩ := H
      have H' := ak H; clear H
      have p5 : 0 ≤ (0 : Int) := (by omega)
      have q5 : 0 < qP.size := (by have : (0 : Int) < (qP.size : Int) := of_decide_eq_true (by assumption); omega)
      have hx5 : ∀ h : 0 < qP.size, ((qP[0]'h).toNat : Int) = bt qP 0 := vY qP 0
      clear p5
      have qi5 : (0 < (qP.size : Int)) = True := eq_true (of_decide_eq_true (by assumption))
      replace q5 := eq_true q5
      go_wp2
      go_roundg k1
      case measure => exact kl
      case rel => exact ⟨_, rs, H', ⟨kl⟩, dn⟩
     ·
      have H' := ak H; clear H
      have p5 : 0 ≤ (0 : Int) := (by omega)
      have q5 : 0 < qP.size := (by have : (0 : Int) < (qP.size : Int) := of_decide_eq_true (by assumption); omega)
      have hx5 : ∀ h : 0 < qP.size, ((qP[0]'h).toNat : Int) = bt qP 0 := vY qP 0
      clear p5
      have qi5 : (0 < (qP.size : Int)) = True := eq_true (of_decide_eq_true (by assumption))
      replace q5 := eq_true q5
      go_wp2
      go_meet
      case rel => exact ⟨_, _, rs, H', ⟨kl⟩, dn⟩
    ·
     have iO : decide (0 < (qP.size : Int)) = false := decide_eq_false c3
     have Au : decide (0 < qP.size) = false := decide_eq_false (by omega)
     clear c3
     (first | rw [iO] | (simp only [dP, fG]; rw [iO]) | skip)
     have H' := ak H; clear H
     go_wp2
     go_meet
     case rel => exact ⟨_, _, rs, H', ⟨kl⟩, dn⟩
 case rest =>
  clear HC2
  obtain ⟨kq, qP, rfl, HA, HJ1, ⟨mc1, rfl⟩⟩ := hcut
  cases kq with
  | zero => exact zz HA.out
  | succ Ox =>
   obtain ⟨H⟩ := HA
   simp only [bP.j1] at H
   have H' := ak H; clear H
   go_wp2
   go_loopg [0] Ox (fun kq v0 w' => ∃ (Ho : ByteArray), v0 = .string Ho ∧ ah (bP.l1 kq Ho = some r) ∧ ah (kq ≤ Ox) ∧ dS w w')
   case atStart => exact ⟨_, rs, H', ⟨Nat.le_refl _⟩, dn⟩
   case round =>
    clear H'
    obtain ⟨Ho, rfl, HA, Zw, ⟨m2, rfl⟩⟩ := hrel
    cases gk with
    | zero => exact zz HA.out
    | succ k2 =>
     obtain ⟨H⟩ := HA
     simp only [bP.l1] at H
     replace H := sp H
     rcases H with ⟨c8, H⟩ | ⟨c8, H⟩
     ·
      have tu : decide (0 < (Ho.size : Int)) = true := decide_eq_true c8
      have Dl : decide (0 < Ho.size) = true := decide_eq_true (by omega)
      clear c8
      obtain ⟨PN, IG⟩ : ∃ j_ : Int, (wrap64 ((Ho.size : Int) - 1)) = j_ := ⟨_, rfl⟩
      replace H : (if 0 ≤ (PN) then (if (PN) < (Ho.size : Int) then (if (bt Ho (PN)) = 32 then (if (PN) ≤ (Ho.size : Int) then (bP.l1 k2 (Ho.extract 0 ((PN) : Int).toNat)) else (none)) else (some Ho)) else (none)) else (none)) = some r := by first | (rw [IG] at H; exact H) | (simp only [IG] at H ⊢; exact H)
      have ajn : (IntKind.i64.wrap ((Ho.size : Int) - 1)) = PN := (dP _).trans IG
      replace H := oL H; obtain ⟨oC, H⟩ := H; replace H := oL H; obtain ⟨uH, H⟩ := H; replace H := sq H
      rcases H with ⟨wo, zU, H⟩ | ⟨c13, wo, zU, H⟩
      ·
       have qC := eq_true (of_decide_eq_true (by assumption) : 0 ≤ (PN))
       replace H := Ac H; obtain ⟨wu, Fj, H⟩ := H
       have H' := ak H; clear H
       obtain ⟨p12, q12, amx⟩ := bx Ho (PN)
       go_wp2
       go_roundg k2
       case measure => exact kl
       case rel => exact ⟨_, (by first | rfl | (simp; done) | (simp only [← IG] <;> (first | rfl | simp)) | (simp [*]; done)), H', ⟨kl⟩, dn⟩
      ·
       obtain rfl := s1 H
       obtain ⟨p12, q12, amx⟩ := bx Ho (PN)
       go_wp2
       go_ret
       exact ⟨by first | rfl | (simp; done) | (simp only [← IG] <;> (first | rfl | simp)) | (simp [*]; done), dn⟩
     ·
      have tu : decide (0 < (Ho.size : Int)) = false := decide_eq_false c8
      have Dl : decide (0 < Ho.size) = false := decide_eq_false (by omega)
      clear c8
      obtain rfl := s1 H
      go_wp2
      go_ret
      exact ⟨rs, dn⟩
def gI.f (a0 : Int) : Option (Bool) := if a0 ≥ 97 then (if a0 ≤ 122 then (some true) else (if a0 ≥ 65 then (if a0 ≤ 90 then (some true) else (if a0 ≥ 48 then (some (decide (a0 ≤ 57))) else (some false))) else (if a0 ≥ 48 then (some (decide (a0 ≤ 57))) else (some false)))) else (if a0 ≥ 65 then (if a0 ≤ 90 then (some true) else (if a0 ≥ 48 then (some (decide (a0 ≤ 57))) else (some false))) else (if a0 ≥ 48 then (some (decide (a0 ≤ 57))) else (some false)))
theorem gI.calls {a0 : Int} {r : Bool} {w : World} (h : gI.f a0 = some r) :
  Calls Tryz.prog 183 #[.int .u8 a0] w fun e w' => e = .returned (.bool r) ∧ dS w w' := by
 unfold gI.f at h; have H := h
 clear h
 replace H := sp H
 rcases H with ⟨c2, H⟩ | ⟨c2, H⟩
 ·
  have nT : decide (97 ≤ a0) = true := decide_eq_true c2
  clear c2
  replace H := sd H
  rcases H with ⟨iO, H⟩ | ⟨iO, H⟩
  ·
   obtain rfl := s1 H
   go_enter Tryz.func183, Tryz.ntmps183
   go_wp2
   go_ret
   exact ⟨rs, dn⟩
  ·
   replace H := sp H
   rcases H with ⟨c4, H⟩ | ⟨c4, H⟩
   ·
    have su : decide (65 ≤ a0) = true := decide_eq_true c4
    clear c4
    replace H := sd H
    rcases H with ⟨nO, H⟩ | ⟨nO, H⟩
    ·
     obtain rfl := s1 H
     go_enter Tryz.func183, Tryz.ntmps183
     go_wp2
     go_ret
     exact ⟨rs, dn⟩
    ·
     replace H := sp H
     rcases H with ⟨c6, H⟩ | ⟨c6, H⟩
     ·
      have oz : decide (48 ≤ a0) = true := decide_eq_true c6
      clear c6
      obtain rfl := s1 H
      go_enter Tryz.func183, Tryz.ntmps183
      go_wp2
      go_ret
      exact ⟨rs, dn⟩
     ·
      have oz : decide (48 ≤ a0) = false := decide_eq_false c6
      clear c6
      obtain rfl := s1 H
      go_enter Tryz.func183, Tryz.ntmps183
      go_wp2
      go_ret
      exact ⟨rs, dn⟩
   ·
    have su : decide (65 ≤ a0) = false := decide_eq_false c4
    clear c4
    replace H := sp H
    rcases H with ⟨c7, H⟩ | ⟨c7, H⟩
    ·
     have sD : decide (48 ≤ a0) = true := decide_eq_true c7
     clear c7
     obtain rfl := s1 H
     go_enter Tryz.func183, Tryz.ntmps183
     go_wp2
     go_ret
     exact ⟨rs, dn⟩
    ·
     have sD : decide (48 ≤ a0) = false := decide_eq_false c7
     clear c7
     obtain rfl := s1 H
     go_enter Tryz.func183, Tryz.ntmps183
     go_wp2
     go_ret
     exact ⟨rs, dn⟩
 ·
  have nT : decide (97 ≤ a0) = false := decide_eq_false c2
  clear c2
  replace H := sp H
  rcases H with ⟨c8, H⟩ | ⟨c8, H⟩
  ·
   have tu : decide (65 ≤ a0) = true := decide_eq_true c8
   clear c8
   replace H := sd H
   rcases H with ⟨yh, H⟩ | ⟨yh, H⟩
   ·
    obtain rfl := s1 H
    go_enter Tryz.func183, Tryz.ntmps183
    go_wp2
    go_ret
    exact ⟨rs, dn⟩
   ·
    replace H := sp H
    rcases H with ⟨c10, H⟩ | ⟨c10, H⟩
    ·
     have oC : decide (48 ≤ a0) = true := decide_eq_true c10
     clear c10
     obtain rfl := s1 H
     go_enter Tryz.func183, Tryz.ntmps183
     go_wp2
     go_ret
     exact ⟨rs, dn⟩
    ·
     have oC : decide (48 ≤ a0) = false := decide_eq_false c10
     clear c10
     obtain rfl := s1 H
     go_enter Tryz.func183, Tryz.ntmps183
     go_wp2
     go_ret
     exact ⟨rs, dn⟩
  ·
   have tu : decide (65 ≤ a0) = false := decide_eq_false c8
   clear c8
   replace H := sp H
   rcases H with ⟨c11, H⟩ | ⟨c11, H⟩
   ·
    have uH : decide (48 ≤ a0) = true := decide_eq_true c11
    clear c11
    obtain rfl := s1 H
    go_enter Tryz.func183, Tryz.ntmps183
    go_wp2
    go_ret
    exact ⟨rs, dn⟩
   ·
    have uH : decide (48 ≤ a0) = false := decide_eq_false c11
    clear c11
    obtain rfl := s1 H
    go_enter Tryz.func183, Tryz.ntmps183
    go_wp2
    go_ret
    exact ⟨rs, dn⟩
mutual
def bT.l0 : Nat → ByteArray → Int → Option (Bool)
 | 0, _, _ => none
 | k + 1, x0, x3 => if x3 < (x0.size : Int) then (bT.j1 k x0 x3 (decide (x3 ≤ 30))) else (bT.j1 k x0 x3 false)
def bT.j1 : Nat → ByteArray → Int → Bool → Option (Bool)
 | 0, _, _, _ => none
 | k + 1, x0, x3, x11 => if x11 = true then (if 0 ≤ x3 then (if x3 < (x0.size : Int) then ((gI.f (bt x0 x3)).bind fun apQ => (if apQ = true then (if x3 = 0 then (if (bt x0 x3) ≤ 57 then (some false) else (bT.l0 k x0 (wrap64 (x3 + 1)))) else (bT.l0 k x0 (wrap64 (x3 + 1)))) else (if (bt x0 x3) = 45 then (if x3 = 0 then (if (bt x0 x3) ≤ 57 then (some false) else (bT.l0 k x0 (wrap64 (x3 + 1)))) else (bT.l0 k x0 (wrap64 (x3 + 1)))) else (some false)))) else (none)) else (none)) else (if (x0.size : Int) ≥ 1 then (some (decide ((x0.size : Int) ≤ 30))) else (some false))
end
def bT.f (k : Nat) (a0 : ByteArray) : Option (Bool) := bT.l0 k a0 0
theorem bT.calls {k : Nat} {a0 : ByteArray} {r : Bool} {w : World} (h : bT.f k a0 = some r) :
  Calls Tryz.prog 184 #[.string a0] w fun e w' => e = .returned (.bool r) ∧ dS w w' := by
 unfold bT.f at h; have H := h
 clear h
 have H' := ak H; clear H
 go_enter Tryz.func184, Tryz.ntmps184
 go_wp2
 go_loopg [3] k (fun kq v3 w' => ∃ (dM : Int), v3 = .int .i64 dM ∧ ah (bT.l0 kq a0 dM = some r) ∧ ah (kq ≤ k) ∧ dS w w')
 case atStart => exact ⟨_, rs, H', ⟨Nat.le_refl _⟩, dn⟩
 case round =>
  clear H'
  obtain ⟨dM, rfl, HA, xG, ⟨m1, rfl⟩⟩ := hrel
  cases gk with
  | zero => exact zz HA.out
  | succ k1 =>
   obtain ⟨H⟩ := HA
   simp only [bT.l0] at H
   have HC2 := ak H
   clear H
   go_upto_region 2 with (fail)
   go_cut [11] (fun v11 wc => ∃ (kq : Nat) (uU : Bool), v11 = .bool uU ∧ ah (bT.j1 kq a0 dM uU = some r) ∧ ah (kq ≤ k1) ∧ dS w wc)
   case first =>
    have H := HC2.out
    clear HC2
    replace H := sd H
    rcases H with ⟨iO, H⟩ | ⟨iO, H⟩
    ·
     (first | rw [iO] | (simp only [dP, fG]; rw [iO]) | skip)
     have H' := ak H; clear H
     go_wp2
     go_meet
     case rel => exact ⟨_, _, rs, H', ⟨kl⟩, dn⟩
    ·
     (first | rw [iO] | (simp only [dP, fG]; rw [iO]) | skip)
     have H' := ak H; clear H
     go_wp2
     go_meet
     case rel => exact ⟨_, _, rs, H', ⟨kl⟩, dn⟩
   case rest =>
    clear HC2
    obtain ⟨kq, uU, rfl, HA, HJ1, ⟨mc1, rfl⟩⟩ := hcut
    cases kq with
    | zero => exact zz HA.out
    | succ Ox =>
     obtain ⟨H⟩ := HA
     simp only [bT.j1] at H
     replace H := sb H
     rcases H with ⟨rfl, H⟩ | ⟨rfl, H⟩
     ·
      replace H := oL H; obtain ⟨nO, H⟩ := H; replace H := oL H; obtain ⟨oz, H⟩ := H; replace H := bd H; obtain ⟨apQ, A8, H⟩ := H; replace H := sb H
      rcases H with ⟨rfl, H⟩ | ⟨rfl, H⟩
      ·
       replace H := sq H
       rcases H with ⟨oC, sS, H⟩ | ⟨c10, oC, sS, H⟩
       ·
        replace H := sd H
        rcases H with ⟨xI, H⟩ | ⟨xI, H⟩
        ·
         obtain rfl := s1 H
         obtain ⟨p7, q7, hx7⟩ := bx a0 dM
         go_wp2_with (refine gA Tryz.func183 (gI.calls A8.out) ?_; intro nd; have p11 : 0 ≤ (dM : Int) := of_decide_eq_true (by assumption); have q11 : dM < (a0.size : Int) := of_decide_eq_true (by assumption); have VZ := vY a0 dM; replace p11 := eq_true p11; replace q11 := eq_true q11)
         go_ret
         exact ⟨rs, dn⟩
        ·
         have H' := ak H; clear H
         obtain ⟨p7, q7, hx7⟩ := bx a0 dM
         go_wp2_with (refine gA Tryz.func183 (gI.calls A8.out) ?_; intro nd; have p11 : 0 ≤ (dM : Int) := of_decide_eq_true (by assumption); have q11 : dM < (a0.size : Int) := of_decide_eq_true (by assumption); have VZ := vY a0 dM; replace p11 := eq_true p11; replace q11 := eq_true q11)
         go_roundg Ox
         case measure => exact kl
         case rel => exact ⟨_, rs, H', ⟨kl⟩, dn⟩
       ·
        have H' := ak H; clear H
        obtain ⟨p7, q7, hx7⟩ := bx a0 dM
        go_wp2_with (refine gA Tryz.func183 (gI.calls A8.out) ?_; intro nd)
        go_roundg Ox
        case measure => exact kl
        case rel => exact ⟨_, rs, H', ⟨kl⟩, dn⟩
      ·
       replace H := sq H
       rcases H with ⟨qC, wI, H⟩ | ⟨c14, qC, wI, H⟩
       ·
        replace H := sq H
        rcases H with ⟨wu, Fj, H⟩ | ⟨c15, wu, Fj, H⟩
        ·
         replace H := sd H
         rcases H with ⟨tJ, H⟩ | ⟨tJ, H⟩
         ·
          obtain rfl := s1 H
          obtain ⟨p7, q7, hx7⟩ := bx a0 dM
          go_wp2_with (refine gA Tryz.func183 (gI.calls A8.out) ?_; intro nd; have p13 : 0 ≤ (dM : Int) := of_decide_eq_true (by assumption); have q13 : dM < (a0.size : Int) := of_decide_eq_true (by assumption); have X5 := vY a0 dM; replace p13 := eq_true p13; replace q13 := eq_true q13; have p16 : 0 ≤ (dM : Int) := of_decide_eq_true (by assumption); have q16 : dM < (a0.size : Int) := of_decide_eq_true (by assumption); have hx16 := vY a0 dM; replace p16 := eq_true p16; replace q16 := eq_true q16)
          go_ret
          exact ⟨rs, dn⟩
         ·
          have H' := ak H; clear H
          obtain ⟨p7, q7, hx7⟩ := bx a0 dM
          go_wp2_with (refine gA Tryz.func183 (gI.calls A8.out) ?_; intro nd; have p13 : 0 ≤ (dM : Int) := of_decide_eq_true (by assumption); have q13 : dM < (a0.size : Int) := of_decide_eq_true (by assumption); have X5 := vY a0 dM; replace p13 := eq_true p13; replace q13 := eq_true q13; have p16 : 0 ≤ (dM : Int) := of_decide_eq_true (by assumption); have q16 : dM < (a0.size : Int) := of_decide_eq_true (by assumption); have hx16 := vY a0 dM; replace p16 := eq_true p16; replace q16 := eq_true q16)
          go_roundg Ox
          case measure => exact kl
          case rel => exact ⟨_, rs, H', ⟨kl⟩, dn⟩
        ·
         have H' := ak H; clear H
         obtain ⟨p7, q7, hx7⟩ := bx a0 dM
         go_wp2_with (refine gA Tryz.func183 (gI.calls A8.out) ?_; intro nd; have p13 : 0 ≤ (dM : Int) := of_decide_eq_true (by assumption); have q13 : dM < (a0.size : Int) := of_decide_eq_true (by assumption); have X5 := vY a0 dM; replace p13 := eq_true p13; replace q13 := eq_true q13)
         go_roundg Ox
         case measure => exact kl
         case rel => exact ⟨_, rs, H', ⟨kl⟩, dn⟩
       ·
        obtain rfl := s1 H
        obtain ⟨p7, q7, hx7⟩ := bx a0 dM
        go_wp2_with (refine gA Tryz.func183 (gI.calls A8.out) ?_; intro nd; have p13 : 0 ≤ (dM : Int) := of_decide_eq_true (by assumption); have q13 : dM < (a0.size : Int) := of_decide_eq_true (by assumption); have X5 := vY a0 dM; replace p13 := eq_true p13; replace q13 := eq_true q13)
        go_ret
        exact ⟨rs, dn⟩
     ·
      replace H := sp H
      rcases H with ⟨c18, H⟩ | ⟨c18, H⟩
      ·
       have zV : decide (1 ≤ (a0.size : Int)) = true := decide_eq_true c18
       have PO : decide (1 ≤ a0.size) = true := decide_eq_true (by omega)
       clear c18
       obtain rfl := s1 H
       go_wp2
       go_ret
       exact ⟨rs, dn⟩
      ·
       have zV : decide (1 ≤ (a0.size : Int)) = false := decide_eq_false c18
       have PO : decide (1 ≤ a0.size) = false := decide_eq_false (by omega)
       clear c18
       obtain rfl := s1 H
       go_wp2
       go_ret
       exact ⟨rs, dn⟩
def jd.f (k : Nat) (eG : ByteArray) (eU : ByteArray) : Option (Bool) := (bT.f k eG).bind fun apR => (if apR = true then ((aQ.f k eU).bind fun apS => (if apS = true then (if (eU.size : Int) ≤ 150 then ((bP.f k eU).bind fun apT => (some (apT.toList == eU.toList))) else (some false)) else (some false))) else (some false))
theorem jd.calls {k : Nat} {eG eU : ByteArray} {r : Bool} {w : World} (h : jd.f k eG eU = some r) :
  Calls Tryz.prog 158 #[.agg #[.string eG, .string eU]] w fun e w' => e = .returned (.bool r) ∧ Below w.heap.size w w' := by
 have DU := Tryz.underlying69
 have HB := ak (Below.refl w.heap.size w)
 unfold jd.f at h; have H := h
 clear h
 replace H := bd H; obtain ⟨apR, A2, H⟩ := H; replace H := sb H
 rcases H with ⟨rfl, H⟩ | ⟨rfl, H⟩
 ·
  replace H := bd H; obtain ⟨apS, A4, H⟩ := H; replace H := sb H
  rcases H with ⟨rfl, H⟩ | ⟨rfl, H⟩
  ·
   replace H := sp H
   rcases H with ⟨c6, H⟩ | ⟨c6, H⟩
   ·
    have oz := decide_eq_true c6
    have xH : decide (eU.size ≤ 150) = true := decide_eq_true (by omega)
    clear c6
    replace H := bd H; obtain ⟨apT, A7, H⟩ := H
    obtain rfl := s1 H
    go_enter Tryz.func158, Tryz.ntmps158
    go_wp2_with (first | (refine gG 1 ?_; refine bX HB 1 #[.string eG, .string eU] 69 ?_; intro Fp w8 uV Fq hb; replace HB := bs HB hb; clear hb; have z9 := zQ uV.out) | (go_at_call 184; refine mA (bT.calls A2.out) ?_; intro nd; (try exact dq)) | (go_at_call 159; refine mA (aQ.calls A4.out) ?_; intro nd; (try exact dq)) | (go_at_call 179; refine mA (bP.calls A7.out) ?_; intro nd; (try exact dq)))
    repeat (go_quiet (first | (refine gG 1 ?_; refine bX HB 1 #[.string eG, .string eU] 69 ?_; intro Fp w8 uV Fq hb; replace HB := bs HB hb; clear hb; have z9 := zQ uV.out) | (go_at_call 184; refine mA (bT.calls A2.out) ?_; intro nd; (try exact dq)) | (go_at_call 159; refine mA (aQ.calls A4.out) ?_; intro nd; (try exact dq)) | (go_at_call 179; refine mA (bP.calls A7.out) ?_; intro nd; (try exact dq))); try go_wp2_with (first | (refine gG 1 ?_; refine bX HB 1 #[.string eG, .string eU] 69 ?_; intro Fp w8 uV Fq hb; replace HB := bs HB hb; clear hb; have z9 := zQ uV.out) | (go_at_call 184; refine mA (bT.calls A2.out) ?_; intro nd; (try exact dq)) | (go_at_call 159; refine mA (aQ.calls A4.out) ?_; intro nd; (try exact dq)) | (go_at_call 179; refine mA (bP.calls A7.out) ?_; intro nd; (try exact dq))))
    go_ret
    exact ⟨er, bb⟩
   ·
    have oz := decide_eq_false c6
    have xH : decide (eU.size ≤ 150) = false := decide_eq_false (by omega)
    clear c6
    obtain rfl := s1 H
    go_enter Tryz.func158, Tryz.ntmps158
    go_wp2_with (first | (refine gG 1 ?_; refine bX HB 1 #[.string eG, .string eU] 69 ?_; intro Fp w10 uV Fq hb; replace HB := bs HB hb; clear hb; have z11 := zQ uV.out) | (go_at_call 184; refine mA (bT.calls A2.out) ?_; intro nd; (try exact dq)) | (go_at_call 159; refine mA (aQ.calls A4.out) ?_; intro nd; (try exact dq)))
    repeat (go_quiet (first | (refine gG 1 ?_; refine bX HB 1 #[.string eG, .string eU] 69 ?_; intro Fp w10 uV Fq hb; replace HB := bs HB hb; clear hb; have z11 := zQ uV.out) | (go_at_call 184; refine mA (bT.calls A2.out) ?_; intro nd; (try exact dq)) | (go_at_call 159; refine mA (aQ.calls A4.out) ?_; intro nd; (try exact dq))); try go_wp2_with (first | (refine gG 1 ?_; refine bX HB 1 #[.string eG, .string eU] 69 ?_; intro Fp w10 uV Fq hb; replace HB := bs HB hb; clear hb; have z11 := zQ uV.out) | (go_at_call 184; refine mA (bT.calls A2.out) ?_; intro nd; (try exact dq)) | (go_at_call 159; refine mA (aQ.calls A4.out) ?_; intro nd; (try exact dq))))
    go_ret
    exact ⟨er, bb⟩
  ·
   obtain rfl := s1 H
   go_enter Tryz.func158, Tryz.ntmps158
   go_wp2_with (first | (refine gG 1 ?_; refine bX HB 1 #[.string eG, .string eU] 69 ?_; intro Fp w12 uV Fq hb; replace HB := bs HB hb; clear hb; have z13 := zQ uV.out) | (go_at_call 184; refine mA (bT.calls A2.out) ?_; intro nd; (try exact dq)) | (go_at_call 159; refine mA (aQ.calls A4.out) ?_; intro nd; (try exact dq)))
   repeat (go_quiet (first | (refine gG 1 ?_; refine bX HB 1 #[.string eG, .string eU] 69 ?_; intro Fp w12 uV Fq hb; replace HB := bs HB hb; clear hb; have z13 := zQ uV.out) | (go_at_call 184; refine mA (bT.calls A2.out) ?_; intro nd; (try exact dq)) | (go_at_call 159; refine mA (aQ.calls A4.out) ?_; intro nd; (try exact dq))); try go_wp2_with (first | (refine gG 1 ?_; refine bX HB 1 #[.string eG, .string eU] 69 ?_; intro Fp w12 uV Fq hb; replace HB := bs HB hb; clear hb; have z13 := zQ uV.out) | (go_at_call 184; refine mA (bT.calls A2.out) ?_; intro nd; (try exact dq)) | (go_at_call 159; refine mA (aQ.calls A4.out) ?_; intro nd; (try exact dq))))
   go_ret
   exact ⟨er, bb⟩
 ·
  obtain rfl := s1 H
  go_enter Tryz.func158, Tryz.ntmps158
  go_wp2_with (first | (refine gG 1 ?_; refine bX HB 1 #[.string eG, .string eU] 69 ?_; intro Fp SA uV Fq hb; replace HB := bs HB hb; clear hb; have z15 := zQ uV.out) | (go_at_call 184; refine mA (bT.calls A2.out) ?_; intro nd; (try exact dq)))
  repeat (go_quiet (first | (refine gG 1 ?_; refine bX HB 1 #[.string eG, .string eU] 69 ?_; intro Fp SA uV Fq hb; replace HB := bs HB hb; clear hb; have z15 := zQ uV.out) | (go_at_call 184; refine mA (bT.calls A2.out) ?_; intro nd; (try exact dq))); try go_wp2_with (first | (refine gG 1 ?_; refine bX HB 1 #[.string eG, .string eU] 69 ?_; intro Fp SA uV Fq hb; replace HB := bs HB hb; clear hb; have z15 := zQ uV.out) | (go_at_call 184; refine mA (bT.calls A2.out) ?_; intro nd; (try exact dq))))
  go_ret
  exact ⟨er, bb⟩
end Go.Proofs.YtncdadcmghglkaaGreatDoor.PFnKidValid
