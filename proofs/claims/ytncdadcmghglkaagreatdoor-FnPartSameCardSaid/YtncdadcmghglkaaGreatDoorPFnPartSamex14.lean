/- Printed walks; conditions: those in each statement. -/
import Derived.Test.YtncdadcmghglkaaGreatDoorVFnPartSameQt
import Derived.Test.YtncdadcmghglkaaGreatDoorVFnPartSameYt
import Derived.Test.YtncdadcmghglkaaGreatDoorPFnPartSamex0
import Derived.Test.YtncdadcmghglkaaGreatDoorPFnPartSamex13
-- short
-- dense
-- sq
-- sq2
namespace Go.Proofs.YtncdadcmghglkaaGreatDoor.PFnPartSame
open Go.RowKit Go.Proofs.YtncdadcmghglkaaGreatDoor.X Go.Proofs.YtncdadcmghglkaaGreatDoorW.PrintWords Go.Proofs.YtncdadcmghglkaaGreatDoorW.PrintLast Go.Proofs.YtncdadcmghglkaaGreatDoorW.PrintMore
attribute [local go_sem] max2_int min2_int max_two min_two max_three min_three max_four min_four   -- for this text's walks alone
set_option linter.unusedVariables false
set_option maxHeartbeats 8000000
set_option maxRecDepth 100000
set_option linter.unusedSimpArgs false
mutual
def spec_l2Trim.j1 : Nat → ByteArray → Option (ByteArray)
 | 0, _ => none
 | k + 1, x0 => spec_l2Trim.l1 k x0
def spec_l2Trim.l1 : Nat → ByteArray → Option (ByteArray)
 | 0, _ => none
 | k + 1, x0 => if (x0.size : Int) > 0 then (if 0 ≤ (wrap64 ((x0.size : Int) - 1)) then (if (wrap64 ((x0.size : Int) - 1)) < (x0.size : Int) then (if (bt x0 (wrap64 ((x0.size : Int) - 1))) = 32 then (if (wrap64 ((x0.size : Int) - 1)) ≤ (x0.size : Int) then (spec_l2Trim.l1 k (x0.extract 0 ((wrap64 ((x0.size : Int) - 1)) : Int).toNat)) else (none)) else (some x0)) else (none)) else (none)) else (some x0)
def spec_l2Trim.l0 : Nat → ByteArray → Option (ByteArray)
 | 0, _ => none
 | k + 1, x0 => if (x0.size : Int) > 0 then (if 0 < (x0.size : Int) then (if (bt x0 0) = 32 then (if 1 ≤ (x0.size : Int) then (spec_l2Trim.l0 k (x0.extract 1 x0.size)) else (none)) else (spec_l2Trim.j1 k x0)) else (none)) else (spec_l2Trim.j1 k x0)
end
def spec_l2Trim.f (k : Nat) (a0 : ByteArray) : Option (ByteArray) := spec_l2Trim.l0 k a0
theorem spec_l2Trim.calls {k : Nat} {a0 r : ByteArray} {w : World} (h : spec_l2Trim.f k a0 = some r) :
  Calls Tryz.prog 179 #[.string a0] w fun e w' => e = .returned (.string r) ∧ Drawn0 w w' := by
 have H : (spec_l2Trim.l0 k a0) = some r := h
 clear h
 have HC2 := ak H
 clear H
 go_enter Tryz.func179, Tryz.ntmps179
 go_upto_block 0 with (fail)
 go_cut [0] (fun v0 wc => ∃ (kq : Nat) (x0_1 : ByteArray), v0 = .string x0_1 ∧ Aside0 (spec_l2Trim.j1 kq x0_1 = some r) ∧ Aside0 (kq ≤ k) ∧ Drawn0 w wc)
 case first =>
  have H := HC2.out
  clear HC2
  have H' := ak H; clear H
  go_wp2
  go_loopg [0] k (fun kq v0 w' => ∃ (x0_1 : ByteArray), v0 = .string x0_1 ∧ Aside0 (spec_l2Trim.l0 kq x0_1 = some r) ∧ Aside0 (kq ≤ k) ∧ Drawn0 w w')
  case atStart => exact ⟨_, rs, H', ⟨Nat.le_refl _⟩, dn⟩
  case round =>
   clear H'
   obtain ⟨x0_1, rfl, HA, HK1, ⟨m1, rfl⟩⟩ := hrel
   cases gk with
   | zero => exact zz HA.out
   | succ k1 =>
    obtain ⟨H⟩ := HA
    simp only [spec_l2Trim.l0] at H
    replace H := sp H
    rcases H with ⟨c3, H⟩ | ⟨c3, H⟩
    ·
     have c3b0 : decide (0 < (x0_1.size : Int)) = true := decide_eq_true c3
     have c3b1 : decide (0 < x0_1.size) = true := decide_eq_true (by omega)
     clear c3
     (first | rw [c3b0] | (simp only [i64_w, i32_w]; rw [c3b0]) | skip)
     replace H := nn H; obtain ⟨c4, H⟩ := H
     have c4b0 := decide_eq_true c4
     have c4b1 : decide (0 < x0_1.size) = true := decide_eq_true (by omega)
     clear c4
     replace H := sq H
     rcases H with ⟨c6b0, c6b1, H⟩ | ⟨c6, c6b0, c6b1, H⟩
     ·
      replace H := ne_ H; obtain ⟨c7b0, c7b1, H⟩ := H
      have H' := ak H; clear H
      have p5 : 0 ≤ (0 : Int) := (by omega)
      have q5 : 0 < x0_1.size := (by have : (0 : Int) < (x0_1.size : Int) := of_decide_eq_true (by assumption); omega)
      have hx5 : ∀ h : 0 < x0_1.size, ((x0_1[0]'h).toNat : Int) = bt x0_1 0 := bt_at x0_1 0
      clear p5
      have qi5 : (0 < (x0_1.size : Int)) = True := eq_true (of_decide_eq_true (by assumption))
      replace q5 := eq_true q5
      go_wp2
      go_roundg k1
      case measure => exact kl
      case rel => exact ⟨_, rs, H', ⟨kl⟩, dn⟩
     ·
      have H' := ak H; clear H
      have p5 : 0 ≤ (0 : Int) := (by omega)
      have q5 : 0 < x0_1.size := (by have : (0 : Int) < (x0_1.size : Int) := of_decide_eq_true (by assumption); omega)
      have hx5 : ∀ h : 0 < x0_1.size, ((x0_1[0]'h).toNat : Int) = bt x0_1 0 := bt_at x0_1 0
      clear p5
      have qi5 : (0 < (x0_1.size : Int)) = True := eq_true (of_decide_eq_true (by assumption))
      replace q5 := eq_true q5
      go_wp2
      go_meet
      case rel => exact ⟨_, _, rs, H', ⟨kl⟩, dn⟩
    ·
     have c3b0 : decide (0 < (x0_1.size : Int)) = false := decide_eq_false c3
     have c3b1 : decide (0 < x0_1.size) = false := decide_eq_false (by omega)
     clear c3
     (first | rw [c3b0] | (simp only [i64_w, i32_w]; rw [c3b0]) | skip)
     have H' := ak H; clear H
     go_wp2
     go_meet
     case rel => exact ⟨_, _, rs, H', ⟨kl⟩, dn⟩
 case rest =>
  clear HC2
  obtain ⟨kq, x0_1, rfl, HA, HJ1, ⟨mc1, rfl⟩⟩ := hcut
  cases kq with
  | zero => exact zz HA.out
  | succ kj1 =>
   obtain ⟨H⟩ := HA
   simp only [spec_l2Trim.j1] at H
   have H' := ak H; clear H
   go_wp2
   go_loopg [0] kj1 (fun kq v0 w' => ∃ (x0_2 : ByteArray), v0 = .string x0_2 ∧ Aside0 (spec_l2Trim.l1 kq x0_2 = some r) ∧ Aside0 (kq ≤ kj1) ∧ Drawn0 w w')
   case atStart => exact ⟨_, rs, H', ⟨Nat.le_refl _⟩, dn⟩
   case round =>
    clear H'
    obtain ⟨x0_2, rfl, HA, HK2, ⟨m2, rfl⟩⟩ := hrel
    cases gk with
    | zero => exact zz HA.out
    | succ k2 =>
     obtain ⟨H⟩ := HA
     simp only [spec_l2Trim.l1] at H
     replace H := sp H
     rcases H with ⟨c8, H⟩ | ⟨c8, H⟩
     ·
      have c8b0 : decide (0 < (x0_2.size : Int)) = true := decide_eq_true c8
      have c8b1 : decide (0 < x0_2.size) = true := decide_eq_true (by omega)
      clear c8
      obtain ⟨ji9, hji9⟩ : ∃ j_ : Int, (wrap64 ((x0_2.size : Int) - 1)) = j_ := ⟨_, rfl⟩
      replace H : (if 0 ≤ (ji9) then (if (ji9) < (x0_2.size : Int) then (if (bt x0_2 (ji9)) = 32 then (if (ji9) ≤ (x0_2.size : Int) then (spec_l2Trim.l1 k2 (x0_2.extract 0 ((ji9) : Int).toNat)) else (none)) else (some x0_2)) else (none)) else (none)) = some r := by first | (rw [hji9] at H; exact H) | (simp only [hji9] at H ⊢; exact H)
      have hji9w : (IntKind.i64.wrap ((x0_2.size : Int) - 1)) = ji9 := (i64_w _).trans hji9
      replace H := nde H; obtain ⟨c10b0, H⟩ := H; replace H := nde H; obtain ⟨c11b0, H⟩ := H; replace H := sq H
      rcases H with ⟨c13b0, c13b1, H⟩ | ⟨c13, c13b0, c13b1, H⟩
      ·
       have c14b0 := eq_true (of_decide_eq_true (by assumption) : 0 ≤ (ji9))
       replace H := ne_ H; obtain ⟨c15b0, c15b1, H⟩ := H
       have H' := ak H; clear H
       obtain ⟨p12, q12, hx12⟩ := bx x0_2 (ji9)
       go_wp2
       go_roundg k2
       case measure => exact kl
       case rel => exact ⟨_, (by first | rfl | (simp; done) | (simp only [← hji9] <;> (first | rfl | simp)) | (simp [*]; done)), H', ⟨kl⟩, dn⟩
      ·
       obtain rfl := s1 H
       obtain ⟨p12, q12, hx12⟩ := bx x0_2 (ji9)
       go_wp2
       go_ret
       exact ⟨by first | rfl | (simp; done) | (simp only [← hji9] <;> (first | rfl | simp)) | (simp [*]; done), dn⟩
     ·
      have c8b0 : decide (0 < (x0_2.size : Int)) = false := decide_eq_false c8
      have c8b1 : decide (0 < x0_2.size) = false := decide_eq_false (by omega)
      clear c8
      obtain rfl := s1 H
      go_wp2
      go_ret
      exact ⟨rs, dn⟩
def spec_l1Letter.f (a0 : Int) : Option (Bool) := if a0 ≥ 97 then (if a0 ≤ 122 then (some true) else (if a0 ≥ 65 then (if a0 ≤ 90 then (some true) else (if a0 ≥ 48 then (some (decide (a0 ≤ 57))) else (some false))) else (if a0 ≥ 48 then (some (decide (a0 ≤ 57))) else (some false)))) else (if a0 ≥ 65 then (if a0 ≤ 90 then (some true) else (if a0 ≥ 48 then (some (decide (a0 ≤ 57))) else (some false))) else (if a0 ≥ 48 then (some (decide (a0 ≤ 57))) else (some false)))
theorem spec_l1Letter.calls {a0 : Int} {r : Bool} {w : World} (h : spec_l1Letter.f a0 = some r) :
  Calls Tryz.prog 183 #[.int .u8 a0] w fun e w' => e = .returned (.bool r) ∧ Drawn0 w w' := by
 have H : (if a0 ≥ 97 then (if a0 ≤ 122 then (some true) else (if a0 ≥ 65 then (if a0 ≤ 90 then (some true) else (if a0 ≥ 48 then (some (decide (a0 ≤ 57))) else (some false))) else (if a0 ≥ 48 then (some (decide (a0 ≤ 57))) else (some false)))) else (if a0 ≥ 65 then (if a0 ≤ 90 then (some true) else (if a0 ≥ 48 then (some (decide (a0 ≤ 57))) else (some false))) else (if a0 ≥ 48 then (some (decide (a0 ≤ 57))) else (some false)))) = some r := h
 clear h
 replace H := sp H
 rcases H with ⟨c2, H⟩ | ⟨c2, H⟩
 ·
  have c2b0 : decide (97 ≤ a0) = true := decide_eq_true c2
  clear c2
  replace H := sd H
  rcases H with ⟨c3b0, H⟩ | ⟨c3b0, H⟩
  ·
   obtain rfl := s1 H
   go_enter Tryz.func183, Tryz.ntmps183
   go_wp2
   go_ret
   exact ⟨rs, dn⟩
  ·
   replace H := sp H
   rcases H with ⟨c4, H⟩ | ⟨c4, H⟩
   ·
    have c4b0 : decide (65 ≤ a0) = true := decide_eq_true c4
    clear c4
    replace H := sd H
    rcases H with ⟨c5b0, H⟩ | ⟨c5b0, H⟩
    ·
     obtain rfl := s1 H
     go_enter Tryz.func183, Tryz.ntmps183
     go_wp2
     go_ret
     exact ⟨rs, dn⟩
    ·
     replace H := sp H
     rcases H with ⟨c6, H⟩ | ⟨c6, H⟩
     ·
      have c6b0 : decide (48 ≤ a0) = true := decide_eq_true c6
      clear c6
      obtain rfl := s1 H
      go_enter Tryz.func183, Tryz.ntmps183
      go_wp2
      go_ret
      exact ⟨rs, dn⟩
     ·
      have c6b0 : decide (48 ≤ a0) = false := decide_eq_false c6
      clear c6
      obtain rfl := s1 H
      go_enter Tryz.func183, Tryz.ntmps183
      go_wp2
      go_ret
      exact ⟨rs, dn⟩
   ·
    have c4b0 : decide (65 ≤ a0) = false := decide_eq_false c4
    clear c4
    replace H := sp H
    rcases H with ⟨c7, H⟩ | ⟨c7, H⟩
    ·
     have c7b0 : decide (48 ≤ a0) = true := decide_eq_true c7
     clear c7
     obtain rfl := s1 H
     go_enter Tryz.func183, Tryz.ntmps183
     go_wp2
     go_ret
     exact ⟨rs, dn⟩
    ·
     have c7b0 : decide (48 ≤ a0) = false := decide_eq_false c7
     clear c7
     obtain rfl := s1 H
     go_enter Tryz.func183, Tryz.ntmps183
     go_wp2
     go_ret
     exact ⟨rs, dn⟩
 ·
  have c2b0 : decide (97 ≤ a0) = false := decide_eq_false c2
  clear c2
  replace H := sp H
  rcases H with ⟨c8, H⟩ | ⟨c8, H⟩
  ·
   have c8b0 : decide (65 ≤ a0) = true := decide_eq_true c8
   clear c8
   replace H := sd H
   rcases H with ⟨c9b0, H⟩ | ⟨c9b0, H⟩
   ·
    obtain rfl := s1 H
    go_enter Tryz.func183, Tryz.ntmps183
    go_wp2
    go_ret
    exact ⟨rs, dn⟩
   ·
    replace H := sp H
    rcases H with ⟨c10, H⟩ | ⟨c10, H⟩
    ·
     have c10b0 : decide (48 ≤ a0) = true := decide_eq_true c10
     clear c10
     obtain rfl := s1 H
     go_enter Tryz.func183, Tryz.ntmps183
     go_wp2
     go_ret
     exact ⟨rs, dn⟩
    ·
     have c10b0 : decide (48 ≤ a0) = false := decide_eq_false c10
     clear c10
     obtain rfl := s1 H
     go_enter Tryz.func183, Tryz.ntmps183
     go_wp2
     go_ret
     exact ⟨rs, dn⟩
  ·
   have c8b0 : decide (65 ≤ a0) = false := decide_eq_false c8
   clear c8
   replace H := sp H
   rcases H with ⟨c11, H⟩ | ⟨c11, H⟩
   ·
    have c11b0 : decide (48 ≤ a0) = true := decide_eq_true c11
    clear c11
    obtain rfl := s1 H
    go_enter Tryz.func183, Tryz.ntmps183
    go_wp2
    go_ret
    exact ⟨rs, dn⟩
   ·
    have c11b0 : decide (48 ≤ a0) = false := decide_eq_false c11
    clear c11
    obtain rfl := s1 H
    go_enter Tryz.func183, Tryz.ntmps183
    go_wp2
    go_ret
    exact ⟨rs, dn⟩
mutual
def spec_l3Name.l0 : Nat → ByteArray → Int → Option (Bool)
 | 0, _, _ => none
 | k + 1, x0, x3 => if x3 < (x0.size : Int) then (spec_l3Name.j1 k x0 x3 (decide (x3 ≤ 30))) else (spec_l3Name.j1 k x0 x3 false)
def spec_l3Name.j1 : Nat → ByteArray → Int → Bool → Option (Bool)
 | 0, _, _, _ => none
 | k + 1, x0, x3, x11 => if x11 = true then (if 0 ≤ x3 then (if x3 < (x0.size : Int) then ((spec_l1Letter.f (bt x0 x3)).bind fun t380 => (if t380 = true then (if x3 = 0 then (if (bt x0 x3) ≤ 57 then (some false) else (spec_l3Name.l0 k x0 (wrap64 (x3 + 1)))) else (spec_l3Name.l0 k x0 (wrap64 (x3 + 1)))) else (if (bt x0 x3) = 45 then (if x3 = 0 then (if (bt x0 x3) ≤ 57 then (some false) else (spec_l3Name.l0 k x0 (wrap64 (x3 + 1)))) else (spec_l3Name.l0 k x0 (wrap64 (x3 + 1)))) else (some false)))) else (none)) else (none)) else (if (x0.size : Int) ≥ 1 then (some (decide ((x0.size : Int) ≤ 30))) else (some false))
end
def spec_l3Name.f (k : Nat) (a0 : ByteArray) : Option (Bool) := spec_l3Name.l0 k a0 0
theorem spec_l3Name.calls {k : Nat} {a0 : ByteArray} {r : Bool} {w : World} (h : spec_l3Name.f k a0 = some r) :
  Calls Tryz.prog 184 #[.string a0] w fun e w' => e = .returned (.bool r) ∧ Drawn0 w w' := by
 have H : (spec_l3Name.l0 k a0 0) = some r := h
 clear h
 have H' := ak H; clear H
 go_enter Tryz.func184, Tryz.ntmps184
 go_wp2
 go_loopg [3] k (fun kq v3 w' => ∃ (x3_1 : Int), v3 = .int .i64 x3_1 ∧ Aside0 (spec_l3Name.l0 kq a0 x3_1 = some r) ∧ Aside0 (kq ≤ k) ∧ Drawn0 w w')
 case atStart => exact ⟨_, rs, H', ⟨Nat.le_refl _⟩, dn⟩
 case round =>
  clear H'
  obtain ⟨x3_1, rfl, HA, HK1, ⟨m1, rfl⟩⟩ := hrel
  cases gk with
  | zero => exact zz HA.out
  | succ k1 =>
   obtain ⟨H⟩ := HA
   simp only [spec_l3Name.l0] at H
   have HC2 := ak H
   clear H
   go_upto_region 2 with (fail)
   go_cut [11] (fun v11 wc => ∃ (kq : Nat) (x11_1 : Bool), v11 = .bool x11_1 ∧ Aside0 (spec_l3Name.j1 kq a0 x3_1 x11_1 = some r) ∧ Aside0 (kq ≤ k1) ∧ Drawn0 w wc)
   case first =>
    have H := HC2.out
    clear HC2
    replace H := sd H
    rcases H with ⟨c3b0, H⟩ | ⟨c3b0, H⟩
    ·
     (first | rw [c3b0] | (simp only [i64_w, i32_w]; rw [c3b0]) | skip)
     have H' := ak H; clear H
     go_wp2
     go_meet
     case rel => exact ⟨_, _, rs, H', ⟨kl⟩, dn⟩
    ·
     (first | rw [c3b0] | (simp only [i64_w, i32_w]; rw [c3b0]) | skip)
     have H' := ak H; clear H
     go_wp2
     go_meet
     case rel => exact ⟨_, _, rs, H', ⟨kl⟩, dn⟩
   case rest =>
    clear HC2
    obtain ⟨kq, x11_1, rfl, HA, HJ1, ⟨mc1, rfl⟩⟩ := hcut
    cases kq with
    | zero => exact zz HA.out
    | succ kj1 =>
     obtain ⟨H⟩ := HA
     simp only [spec_l3Name.j1] at H
     replace H := sb H
     rcases H with ⟨rfl, H⟩ | ⟨rfl, H⟩
     ·
      replace H := nde H; obtain ⟨c5b0, H⟩ := H; replace H := nde H; obtain ⟨c6b0, H⟩ := H; replace H := bd H; obtain ⟨t380, A8, H⟩ := H; replace H := sb H
      rcases H with ⟨rfl, H⟩ | ⟨rfl, H⟩
      ·
       replace H := sq H
       rcases H with ⟨c10b0, c10b1, H⟩ | ⟨c10, c10b0, c10b1, H⟩
       ·
        replace H := sd H
        rcases H with ⟨c12b0, H⟩ | ⟨c12b0, H⟩
        ·
         obtain rfl := s1 H
         obtain ⟨p7, q7, hx7⟩ := bx a0 x3_1
         go_wp2_with (refine gA Tryz.func183 (spec_l1Letter.calls A8.out) ?_; intro nd; have p11 : 0 ≤ (x3_1 : Int) := of_decide_eq_true (by assumption); have q11 : x3_1 < (a0.size : Int) := of_decide_eq_true (by assumption); have hx11 := bt_at a0 x3_1; replace p11 := eq_true p11; replace q11 := eq_true q11)
         go_ret
         exact ⟨rs, dn⟩
        ·
         have H' := ak H; clear H
         obtain ⟨p7, q7, hx7⟩ := bx a0 x3_1
         go_wp2_with (refine gA Tryz.func183 (spec_l1Letter.calls A8.out) ?_; intro nd; have p11 : 0 ≤ (x3_1 : Int) := of_decide_eq_true (by assumption); have q11 : x3_1 < (a0.size : Int) := of_decide_eq_true (by assumption); have hx11 := bt_at a0 x3_1; replace p11 := eq_true p11; replace q11 := eq_true q11)
         go_roundg kj1
         case measure => exact kl
         case rel => exact ⟨_, rs, H', ⟨kl⟩, dn⟩
       ·
        have H' := ak H; clear H
        obtain ⟨p7, q7, hx7⟩ := bx a0 x3_1
        go_wp2_with (refine gA Tryz.func183 (spec_l1Letter.calls A8.out) ?_; intro nd)
        go_roundg kj1
        case measure => exact kl
        case rel => exact ⟨_, rs, H', ⟨kl⟩, dn⟩
      ·
       replace H := sq H
       rcases H with ⟨c14b0, c14b1, H⟩ | ⟨c14, c14b0, c14b1, H⟩
       ·
        replace H := sq H
        rcases H with ⟨c15b0, c15b1, H⟩ | ⟨c15, c15b0, c15b1, H⟩
        ·
         replace H := sd H
         rcases H with ⟨c17b0, H⟩ | ⟨c17b0, H⟩
         ·
          obtain rfl := s1 H
          obtain ⟨p7, q7, hx7⟩ := bx a0 x3_1
          go_wp2_with (refine gA Tryz.func183 (spec_l1Letter.calls A8.out) ?_; intro nd; have p13 : 0 ≤ (x3_1 : Int) := of_decide_eq_true (by assumption); have q13 : x3_1 < (a0.size : Int) := of_decide_eq_true (by assumption); have hx13 := bt_at a0 x3_1; replace p13 := eq_true p13; replace q13 := eq_true q13; have p16 : 0 ≤ (x3_1 : Int) := of_decide_eq_true (by assumption); have q16 : x3_1 < (a0.size : Int) := of_decide_eq_true (by assumption); have hx16 := bt_at a0 x3_1; replace p16 := eq_true p16; replace q16 := eq_true q16)
          go_ret
          exact ⟨rs, dn⟩
         ·
          have H' := ak H; clear H
          obtain ⟨p7, q7, hx7⟩ := bx a0 x3_1
          go_wp2_with (refine gA Tryz.func183 (spec_l1Letter.calls A8.out) ?_; intro nd; have p13 : 0 ≤ (x3_1 : Int) := of_decide_eq_true (by assumption); have q13 : x3_1 < (a0.size : Int) := of_decide_eq_true (by assumption); have hx13 := bt_at a0 x3_1; replace p13 := eq_true p13; replace q13 := eq_true q13; have p16 : 0 ≤ (x3_1 : Int) := of_decide_eq_true (by assumption); have q16 : x3_1 < (a0.size : Int) := of_decide_eq_true (by assumption); have hx16 := bt_at a0 x3_1; replace p16 := eq_true p16; replace q16 := eq_true q16)
          go_roundg kj1
          case measure => exact kl
          case rel => exact ⟨_, rs, H', ⟨kl⟩, dn⟩
        ·
         have H' := ak H; clear H
         obtain ⟨p7, q7, hx7⟩ := bx a0 x3_1
         go_wp2_with (refine gA Tryz.func183 (spec_l1Letter.calls A8.out) ?_; intro nd; have p13 : 0 ≤ (x3_1 : Int) := of_decide_eq_true (by assumption); have q13 : x3_1 < (a0.size : Int) := of_decide_eq_true (by assumption); have hx13 := bt_at a0 x3_1; replace p13 := eq_true p13; replace q13 := eq_true q13)
         go_roundg kj1
         case measure => exact kl
         case rel => exact ⟨_, rs, H', ⟨kl⟩, dn⟩
       ·
        obtain rfl := s1 H
        obtain ⟨p7, q7, hx7⟩ := bx a0 x3_1
        go_wp2_with (refine gA Tryz.func183 (spec_l1Letter.calls A8.out) ?_; intro nd; have p13 : 0 ≤ (x3_1 : Int) := of_decide_eq_true (by assumption); have q13 : x3_1 < (a0.size : Int) := of_decide_eq_true (by assumption); have hx13 := bt_at a0 x3_1; replace p13 := eq_true p13; replace q13 := eq_true q13)
        go_ret
        exact ⟨rs, dn⟩
     ·
      replace H := sp H
      rcases H with ⟨c18, H⟩ | ⟨c18, H⟩
      ·
       have c18b0 : decide (1 ≤ (a0.size : Int)) = true := decide_eq_true c18
       have c18b1 : decide (1 ≤ a0.size) = true := decide_eq_true (by omega)
       clear c18
       obtain rfl := s1 H
       go_wp2
       go_ret
       exact ⟨rs, dn⟩
      ·
       have c18b0 : decide (1 ≤ (a0.size : Int)) = false := decide_eq_false c18
       have c18b1 : decide (1 ≤ a0.size) = false := decide_eq_false (by omega)
       clear c18
       obtain rfl := s1 H
       go_wp2
       go_ret
       exact ⟨rs, dn⟩
def spec_FieldValid.f (k : Nat) (a0_0 : ByteArray) (a0_1 : ByteArray) : Option (Bool) := (spec_l3Name.f k a0_0).bind fun t382 => (if t382 = true then ((spec_TextValid.f k a0_1).bind fun t383 => (if t383 = true then (if (a0_1.size : Int) ≤ 150 then ((spec_l2Trim.f k a0_1).bind fun t384 => (some (t384.toList == a0_1.toList))) else (some false)) else (some false))) else (some false))
theorem spec_FieldValid.calls {k : Nat} {a0_0 a0_1 : ByteArray} {r : Bool} {w : World} (h : spec_FieldValid.f k a0_0 a0_1 = some r) :
  Calls Tryz.prog 158 #[.agg #[.string a0_0, .string a0_1]] w fun e w' => e = .returned (.bool r) ∧ Below w.heap.size w w' := by
 have hu69 := Tryz.underlying69
 have HB := ak (Below.refl w.heap.size w)
 have H : ((spec_l3Name.f k a0_0).bind fun t382 => (if t382 = true then ((spec_TextValid.f k a0_1).bind fun t383 => (if t383 = true then (if (a0_1.size : Int) ≤ 150 then ((spec_l2Trim.f k a0_1).bind fun t384 => (some (t384.toList == a0_1.toList))) else (some false)) else (some false))) else (some false))) = some r := h
 clear h
 replace H := bd H; obtain ⟨t382, A2, H⟩ := H; replace H := sb H
 rcases H with ⟨rfl, H⟩ | ⟨rfl, H⟩
 ·
  replace H := bd H; obtain ⟨t383, A4, H⟩ := H; replace H := sb H
  rcases H with ⟨rfl, H⟩ | ⟨rfl, H⟩
  ·
   replace H := sp H
   rcases H with ⟨c6, H⟩ | ⟨c6, H⟩
   ·
    have c6b0 := decide_eq_true c6
    have c6b1 : decide (a0_1.size ≤ 150) = true := decide_eq_true (by omega)
    clear c6
    replace H := bd H; obtain ⟨t384, A7, H⟩ := H
    obtain rfl := s1 H
    go_enter Tryz.func158, Tryz.ntmps158
    go_wp2_with (first | (refine gG 1 ?_; refine bX HB 1 #[.string a0_0, .string a0_1] 69 ?_; intro gb381 w8 BK381 GW381 hb; replace HB := bs HB hb; clear hb; have z9 := cz2 BK381.out) | (go_at_call 184; refine mA (spec_l3Name.calls A2.out) ?_; intro nd; (try exact dq)) | (go_at_call 159; refine mA (spec_TextValid.calls A4.out) ?_; intro nd; (try exact dq)) | (go_at_call 179; refine mA (spec_l2Trim.calls A7.out) ?_; intro nd; (try exact dq)))
    repeat (go_quiet (first | (refine gG 1 ?_; refine bX HB 1 #[.string a0_0, .string a0_1] 69 ?_; intro gb381 w8 BK381 GW381 hb; replace HB := bs HB hb; clear hb; have z9 := cz2 BK381.out) | (go_at_call 184; refine mA (spec_l3Name.calls A2.out) ?_; intro nd; (try exact dq)) | (go_at_call 159; refine mA (spec_TextValid.calls A4.out) ?_; intro nd; (try exact dq)) | (go_at_call 179; refine mA (spec_l2Trim.calls A7.out) ?_; intro nd; (try exact dq))); try go_wp2_with (first | (refine gG 1 ?_; refine bX HB 1 #[.string a0_0, .string a0_1] 69 ?_; intro gb381 w8 BK381 GW381 hb; replace HB := bs HB hb; clear hb; have z9 := cz2 BK381.out) | (go_at_call 184; refine mA (spec_l3Name.calls A2.out) ?_; intro nd; (try exact dq)) | (go_at_call 159; refine mA (spec_TextValid.calls A4.out) ?_; intro nd; (try exact dq)) | (go_at_call 179; refine mA (spec_l2Trim.calls A7.out) ?_; intro nd; (try exact dq))))
    go_ret
    exact ⟨er, bb⟩
   ·
    have c6b0 := decide_eq_false c6
    have c6b1 : decide (a0_1.size ≤ 150) = false := decide_eq_false (by omega)
    clear c6
    obtain rfl := s1 H
    go_enter Tryz.func158, Tryz.ntmps158
    go_wp2_with (first | (refine gG 1 ?_; refine bX HB 1 #[.string a0_0, .string a0_1] 69 ?_; intro gb381 w10 BK381 GW381 hb; replace HB := bs HB hb; clear hb; have z11 := cz2 BK381.out) | (go_at_call 184; refine mA (spec_l3Name.calls A2.out) ?_; intro nd; (try exact dq)) | (go_at_call 159; refine mA (spec_TextValid.calls A4.out) ?_; intro nd; (try exact dq)))
    repeat (go_quiet (first | (refine gG 1 ?_; refine bX HB 1 #[.string a0_0, .string a0_1] 69 ?_; intro gb381 w10 BK381 GW381 hb; replace HB := bs HB hb; clear hb; have z11 := cz2 BK381.out) | (go_at_call 184; refine mA (spec_l3Name.calls A2.out) ?_; intro nd; (try exact dq)) | (go_at_call 159; refine mA (spec_TextValid.calls A4.out) ?_; intro nd; (try exact dq))); try go_wp2_with (first | (refine gG 1 ?_; refine bX HB 1 #[.string a0_0, .string a0_1] 69 ?_; intro gb381 w10 BK381 GW381 hb; replace HB := bs HB hb; clear hb; have z11 := cz2 BK381.out) | (go_at_call 184; refine mA (spec_l3Name.calls A2.out) ?_; intro nd; (try exact dq)) | (go_at_call 159; refine mA (spec_TextValid.calls A4.out) ?_; intro nd; (try exact dq))))
    go_ret
    exact ⟨er, bb⟩
  ·
   obtain rfl := s1 H
   go_enter Tryz.func158, Tryz.ntmps158
   go_wp2_with (first | (refine gG 1 ?_; refine bX HB 1 #[.string a0_0, .string a0_1] 69 ?_; intro gb381 w12 BK381 GW381 hb; replace HB := bs HB hb; clear hb; have z13 := cz2 BK381.out) | (go_at_call 184; refine mA (spec_l3Name.calls A2.out) ?_; intro nd; (try exact dq)) | (go_at_call 159; refine mA (spec_TextValid.calls A4.out) ?_; intro nd; (try exact dq)))
   repeat (go_quiet (first | (refine gG 1 ?_; refine bX HB 1 #[.string a0_0, .string a0_1] 69 ?_; intro gb381 w12 BK381 GW381 hb; replace HB := bs HB hb; clear hb; have z13 := cz2 BK381.out) | (go_at_call 184; refine mA (spec_l3Name.calls A2.out) ?_; intro nd; (try exact dq)) | (go_at_call 159; refine mA (spec_TextValid.calls A4.out) ?_; intro nd; (try exact dq))); try go_wp2_with (first | (refine gG 1 ?_; refine bX HB 1 #[.string a0_0, .string a0_1] 69 ?_; intro gb381 w12 BK381 GW381 hb; replace HB := bs HB hb; clear hb; have z13 := cz2 BK381.out) | (go_at_call 184; refine mA (spec_l3Name.calls A2.out) ?_; intro nd; (try exact dq)) | (go_at_call 159; refine mA (spec_TextValid.calls A4.out) ?_; intro nd; (try exact dq))))
   go_ret
   exact ⟨er, bb⟩
 ·
  obtain rfl := s1 H
  go_enter Tryz.func158, Tryz.ntmps158
  go_wp2_with (first | (refine gG 1 ?_; refine bX HB 1 #[.string a0_0, .string a0_1] 69 ?_; intro gb381 w14 BK381 GW381 hb; replace HB := bs HB hb; clear hb; have z15 := cz2 BK381.out) | (go_at_call 184; refine mA (spec_l3Name.calls A2.out) ?_; intro nd; (try exact dq)))
  repeat (go_quiet (first | (refine gG 1 ?_; refine bX HB 1 #[.string a0_0, .string a0_1] 69 ?_; intro gb381 w14 BK381 GW381 hb; replace HB := bs HB hb; clear hb; have z15 := cz2 BK381.out) | (go_at_call 184; refine mA (spec_l3Name.calls A2.out) ?_; intro nd; (try exact dq))); try go_wp2_with (first | (refine gG 1 ?_; refine bX HB 1 #[.string a0_0, .string a0_1] 69 ?_; intro gb381 w14 BK381 GW381 hb; replace HB := bs HB hb; clear hb; have z15 := cz2 BK381.out) | (go_at_call 184; refine mA (spec_l3Name.calls A2.out) ?_; intro nd; (try exact dq))))
  go_ret
  exact ⟨er, bb⟩
def spec_NeedsCode.l0 : Nat → ByteArray → Int → Option (Bool)
 | 0, _, _ => none
 | k + 1, x0, x3 => if (wrap64 (x3 + 1)) < (x0.size : Int) then (if 0 ≤ x3 then (if x3 < (x0.size : Int) then (if (bt x0 x3) = 61 then (if 0 ≤ (wrap64 (x3 + 1)) then (if (bt x0 (wrap64 (x3 + 1))) = 63 then (some true) else (spec_NeedsCode.l0 k x0 (wrap64 (x3 + 1)))) else (none)) else (spec_NeedsCode.l0 k x0 (wrap64 (x3 + 1)))) else (none)) else (none)) else ((spec_TextValid.f k x0).bind fun t385 => (if t385 = true then ((spec_l2Trim.f k x0).bind fun t386 => (if t386.toList = x0.toList then (some (decide ((x0.size : Int) > 120))) else (some true))) else (some true)))
def spec_NeedsCode.f (k : Nat) (a0 : ByteArray) : Option (Bool) := spec_NeedsCode.l0 k a0 0
theorem spec_NeedsCode.calls {k : Nat} {a0 : ByteArray} {r : Bool} {w : World} (h : spec_NeedsCode.f k a0 = some r) :
  Calls Tryz.prog 207 #[.string a0] w fun e w' => e = .returned (.bool r) ∧ Drawn0 w w' := by
 have H : (spec_NeedsCode.l0 k a0 0) = some r := h
 clear h
 have H' := ak H; clear H
 go_enter Tryz.func207, Tryz.ntmps207
 go_wp2
 go_loopg [3] k (fun kq v3 w' => ∃ (x3_1 : Int), v3 = .int .i64 x3_1 ∧ Aside0 (spec_NeedsCode.l0 kq a0 x3_1 = some r) ∧ Aside0 (kq ≤ k) ∧ Drawn0 w w')
 case atStart => exact ⟨_, rs, H', ⟨Nat.le_refl _⟩, dn⟩
 case round =>
  clear H'
  obtain ⟨x3_1, rfl, HA, HK1, ⟨m1, rfl⟩⟩ := hrel
  cases gk with
  | zero => exact zz HA.out
  | succ k1 =>
   obtain ⟨H⟩ := HA
   simp only [spec_NeedsCode.l0] at H
   replace H := sp H
   rcases H with ⟨c2, H⟩ | ⟨c2, H⟩
   ·
    have c2b0 := decide_eq_true c2
    (try (have c2b1 : decide ((x3_1 + 1) < (a0.size : Int)) = true := decide_eq_true (by have h_ := c2; unfold wrap64 at h_; omega)))
    clear c2
    replace H := nde H; obtain ⟨c3b0, H⟩ := H; replace H := nde H; obtain ⟨c4b0, H⟩ := H; replace H := sq H
    rcases H with ⟨c6b0, c6b1, H⟩ | ⟨c6, c6b0, c6b1, H⟩
    ·
     obtain ⟨ji7, hji7⟩ : ∃ j_ : Int, (wrap64 (x3_1 + 1)) = j_ := ⟨_, rfl⟩
     replace H : (if 0 ≤ (ji7) then (if (bt a0 (ji7)) = 63 then (some true) else (spec_NeedsCode.l0 k1 a0 ji7)) else (none)) = some r := by first | (rw [hji7] at H; exact H) | (simp only [hji7] at H ⊢; exact H)
     (try rw [hji7] at c2b0)
     have hji7w : (IntKind.i64.wrap (x3_1 + 1)) = ji7 := (i64_w _).trans hji7
     replace H := nde H; obtain ⟨c8b0, H⟩ := H; replace H := sq H
     rcases H with ⟨c10b0, c10b1, H⟩ | ⟨c10, c10b0, c10b1, H⟩
     ·
      obtain rfl := s1 H
      obtain ⟨p5, q5, hx5⟩ := bx a0 x3_1
      obtain ⟨p9, q9, hx9⟩ := bx a0 (ji7)
      go_wp2
      go_ret
      exact ⟨by first | rfl | (simp; done) | (simp only [← hji7] <;> (first | rfl | simp)) | (simp [*]; done), dn⟩
     ·
      have H' := ak H; clear H
      obtain ⟨p5, q5, hx5⟩ := bx a0 x3_1
      obtain ⟨p9, q9, hx9⟩ := bx a0 (ji7)
      go_wp2
      go_roundg k1
      case measure => exact kl
      case rel => exact ⟨_, (by first | rfl | (simp; done) | (simp only [← hji7] <;> (first | rfl | simp)) | (simp [*]; done)), H', ⟨kl⟩, dn⟩
    ·
     have H' := ak H; clear H
     obtain ⟨p5, q5, hx5⟩ := bx a0 x3_1
     go_wp2
     go_roundg k1
     case measure => exact kl
     case rel => exact ⟨_, rs, H', ⟨kl⟩, dn⟩
   ·
    have c2b0 := decide_eq_false c2
    (try (have c2b1 : decide ((x3_1 + 1) < (a0.size : Int)) = false := decide_eq_false (by have h_ := c2; unfold wrap64 at h_; omega)))
    clear c2
    replace H := bd H; obtain ⟨t385, A11, H⟩ := H; replace H := sb H
    rcases H with ⟨rfl, H⟩ | ⟨rfl, H⟩
    ·
     replace H := bd H; obtain ⟨t386, A13, H⟩ := H; replace H := sq H
     rcases H with ⟨c14b0, c14b1, H⟩ | ⟨c14, c14b0, c14b1, H⟩
     ·
      obtain rfl := s1 H
      go_wp2_with (first | (refine gA Tryz.func159 (spec_TextValid.calls A11.out) ?_; intro nd) | (go_at_call 179; refine mA (spec_l2Trim.calls A13.out) ?_; intro nd))
      go_ret
      exact ⟨rs, dn⟩
     ·
      obtain rfl := s1 H
      go_wp2_with (first | (refine gA Tryz.func159 (spec_TextValid.calls A11.out) ?_; intro nd) | (go_at_call 179; refine mA (spec_l2Trim.calls A13.out) ?_; intro nd))
      go_ret
      exact ⟨rs, dn⟩
    ·
     obtain rfl := s1 H
     go_wp2_with (refine gA Tryz.func159 (spec_TextValid.calls A11.out) ?_; intro nd)
     go_ret
     exact ⟨rs, dn⟩
end Go.Proofs.YtncdadcmghglkaaGreatDoor.PFnPartSame
