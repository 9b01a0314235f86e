/- Printed walks; conditions: those in each statement. -/
import Derived.Test.YtncdadcmghglkaaGreatDoorVFnPartSameQt
import Derived.Test.YtncdadcmghglkaaGreatDoorVFnPartSameYt
import Derived.Test.YtncdadcmghglkaaGreatDoorPFnPartSamex0
-- short
-- dense
-- sq
-- sq2
namespace Go.Proofs.YtncdadcmghglkaaGreatDoor.PFnPartSame
open Go.RowKit Go.Proofs.YtncdadcmghglkaaGreatDoor.X Go.Proofs.YtncdadcmghglkaaGreatDoorW.PrintWords Go.Proofs.YtncdadcmghglkaaGreatDoorW.PrintLast Go.Proofs.YtncdadcmghglkaaGreatDoorW.PrintMore
attribute [local go_sem] max2_int min2_int max_two min_two max_three min_three max_four min_four   -- for this text's walks alone
set_option linter.unusedVariables false
set_option maxHeartbeats 8000000
set_option maxRecDepth 100000
set_option linter.unusedSimpArgs false
attribute [local go_sem high] eqA69
def impl_Field_62.l0 : Nat → List (S69) → List (S69) → Int → Int → Option (Bool)
 | 0, _, _, _, _ => none
 | k + 1, x0, x1, x12, x13 => if x13 < x12 then (if 0 ≤ x13 then (if x13 < (x0.length : Int) then (if x13 < (x1.length : Int) then (if (!((((rd_T69 x0 x13).f0).toList) == (((rd_T69 x1 x13).f0).toList)) || (!((((rd_T69 x0 x13).f1).toList) == (((rd_T69 x1 x13).f1).toList)))) = true then (some false) else (impl_Field_62.l0 k x0 x1 x12 (wrap64 (x13 + 1)))) else (none)) else (none)) else (none)) else (some true)
def impl_Field_62.f (k : Nat) (l0 : List (S69)) (l1 : List (S69)) : Option (Bool) := if (l0.length : Int) = (l1.length : Int) then (impl_Field_62.l0 k l0 l1 (l0.length : Int) 0) else (some false)
theorem impl_Field_62.calls {k c0 c1 : Nat} {A0 A1 : Option Addr} {l0 l1 : List (S69)} {r : Bool} {w : World} (hr0 : Kd.C k69 w A0 l0.length l0) (hc0 : l0.length ≤ c0) (hr1 : Kd.C k69 w A1 l1.length l1) (hc1 : l1.length ≤ c1) (h : impl_Field_62.f k l0 l1 = some r) :
  Calls Tryz.prog 62 #[.slice A0 l0.length c0, .slice A1 l1.length c1] w fun e w' => e = .returned (.bool r) ∧ Drawn0 w w' := by
 have hu69 := Tryz.underlying69
 have HR0 := ak hr0
 have HC0 := ak hc0
 clear hr0 hc0
 have HR1 := ak hr1
 have HC1 := ak hc1
 clear hr1 hc1
 have H : (if (l0.length : Int) = (l1.length : Int) then (impl_Field_62.l0 k l0 l1 (l0.length : Int) 0) else (some false)) = some r := h
 clear h
 replace H := sp H
 rcases H with ⟨c3, H⟩ | ⟨c3, H⟩
 ·
  have c3b0 := beq_iff_eq.mpr c3
  have c3b1 := bne_eq_false_iff_eq.mpr c3
  have c3b2 : (l0.length == l1.length) = true := by first | simpa using c3 | (simp at c3 ⊢; omega)
  clear c3
  have H' := ak H; clear H
  go_enter Tryz.func62, Tryz.ntmps62
  go_wp2
  repeat (go_quiet (fail); try go_wp2)
  go_loopg [13] k (fun kq v13 w' => ∃ (x13_1 : Int), v13 = .int .i64 x13_1 ∧ Aside0 (impl_Field_62.l0 kq l0 l1 (l0.length : Int) x13_1 = some r) ∧ Aside0 (kq ≤ k) ∧ Drawn0 w w')
  case atStart => exact ⟨_, rs, H', ⟨Nat.le_refl _⟩, dn⟩
  case round =>
   clear H'
   try clear c3
   try clear c3b0
   try clear c3b1
   try clear c3b2
   obtain ⟨x13_1, rfl, HA, HK1, ⟨m1, rfl⟩⟩ := hrel
   cases gk with
   | zero => exact zz HA.out
   | succ k1 =>
    obtain ⟨H⟩ := HA
    simp only [impl_Field_62.l0] at H
    replace H := sd H
    rcases H with ⟨c4b0, H⟩ | ⟨c4b0, H⟩
    ·
     replace H := nde H; obtain ⟨c5b0, H⟩ := H; replace H := nde H; obtain ⟨c6b0, H⟩ := H; replace H := nde H; obtain ⟨c7b0, H⟩ := H; replace H := sp H
     rcases H with ⟨c8, H⟩ | ⟨c8, H⟩
     ·
      have c8b0 : (!((((rd_T69 l0 x13_1).f0).toList) == (((rd_T69 l1 x13_1).f0).toList)) || (!((((rd_T69 l0 x13_1).f1).toList) == (((rd_T69 l1 x13_1).f1).toList)))) = true := c8
      clear c8
      obtain rfl := s1 H
      have p101 := zi x13_1
      have q101 := zj x13_1 l0.length
      obtain ⟨ad101, e101, hx101_0, hx101_1⟩ := at_T69 HR0.out x13_1 p101 q101
      cases e101
      replace p101 := eq_true p101
      replace q101 := eq_true q101
      have p102 := zi x13_1
      have q102 := zj x13_1 l1.length
      obtain ⟨ad102, e102, hx102_0, hx102_1⟩ := at_T69 HR1.out x13_1 p102 q102
      cases e102
      replace p102 := eq_true p102
      replace q102 := eq_true q102
      go_wp2
      repeat (go_quiet (fail); try go_wp2)
      go_ret
      exact ⟨rs, dn⟩
     ·
      have c8b0 : (!((((rd_T69 l0 x13_1).f0).toList) == (((rd_T69 l1 x13_1).f0).toList)) || (!((((rd_T69 l0 x13_1).f1).toList) == (((rd_T69 l1 x13_1).f1).toList)))) = false := by simpa using c8
      clear c8
      have H' := ak H; clear H
      have p101 := zi x13_1
      have q101 := zj x13_1 l0.length
      obtain ⟨ad101, e101, hx101_0, hx101_1⟩ := at_T69 HR0.out x13_1 p101 q101
      cases e101
      replace p101 := eq_true p101
      replace q101 := eq_true q101
      have p102 := zi x13_1
      have q102 := zj x13_1 l1.length
      obtain ⟨ad102, e102, hx102_0, hx102_1⟩ := at_T69 HR1.out x13_1 p102 q102
      cases e102
      replace p102 := eq_true p102
      replace q102 := eq_true q102
      go_wp2
      repeat (go_quiet (fail); try go_wp2)
      go_roundg k1
      case measure => exact kl
      case rel => exact ⟨_, rs, H', ⟨kl⟩, dn⟩
    ·
     obtain rfl := s1 H
     go_wp2
     repeat (go_quiet (fail); try go_wp2)
     go_ret
     exact ⟨rs, dn⟩
 ·
  have c3b0 := beq_eq_false_iff_ne.mpr c3
  have c3b1 := bne_iff_ne.mpr c3
  have c3b2 : (l0.length == l1.length) = false := by first | simpa using c3 | (simp at c3 ⊢; omega)
  obtain rfl := s1 H
  go_enter Tryz.func62, Tryz.ntmps62
  go_wp2
  repeat (go_quiet (fail); try go_wp2)
  go_ret
  exact ⟨rs, dn⟩
def slices_Equal_string_string.l0 : Nat → List ByteArray → List ByteArray → Int → Int → Option (Bool)
 | 0, _, _, _, _ => none
 | k + 1, x0, x1, x12, x13 => if x13 < x12 then (if 0 ≤ x13 then (if x13 < (x0.length : Int) then (if x13 < (x1.length : Int) then (if (rdOf ByteArray.empty x0 x13).toList = (rdOf ByteArray.empty x1 x13).toList then (slices_Equal_string_string.l0 k x0 x1 x12 (wrap64 (x13 + 1))) else (some false)) else (none)) else (none)) else (none)) else (some true)
def slices_Equal_string_string.f (k : Nat) (l0 : List ByteArray) (l1 : List ByteArray) : Option (Bool) := if (l0.length : Int) = (l1.length : Int) then (slices_Equal_string_string.l0 k l0 l1 (l0.length : Int) 0) else (some false)
theorem slices_Equal_string_string.calls {k c0 c1 : Nat} {A0 A1 : Option Addr} {l0 l1 : List ByteArray} {r : Bool} {w : World} (hr0 : Kd.C Kd.string w A0 l0.length l0) (hc0 : l0.length ≤ c0) (hr1 : Kd.C Kd.string w A1 l1.length l1) (hc1 : l1.length ≤ c1) (h : slices_Equal_string_string.f k l0 l1 = some r) :
  Calls Tryz.prog 63 #[.slice A0 l0.length c0, .slice A1 l1.length c1] w fun e w' => e = .returned (.bool r) ∧ Drawn0 w w' := by
 have HR0 := ak hr0
 have HC0 := ak hc0
 clear hr0 hc0
 have HR1 := ak hr1
 have HC1 := ak hc1
 clear hr1 hc1
 have H : (if (l0.length : Int) = (l1.length : Int) then (slices_Equal_string_string.l0 k l0 l1 (l0.length : Int) 0) else (some false)) = some r := h
 clear h
 replace H := sp H
 rcases H with ⟨c3, H⟩ | ⟨c3, H⟩
 ·
  have c3b0 := beq_iff_eq.mpr c3
  have c3b1 := bne_eq_false_iff_eq.mpr c3
  have c3b2 : (l0.length == l1.length) = true := by first | simpa using c3 | (simp at c3 ⊢; omega)
  clear c3
  have H' := ak H; clear H
  go_enter Tryz.func63, Tryz.ntmps63
  go_wp2
  repeat (go_quiet (fail); try go_wp2)
  go_loopg [13] k (fun kq v13 w' => ∃ (x13_1 : Int), v13 = .int .i64 x13_1 ∧ Aside0 (slices_Equal_string_string.l0 kq l0 l1 (l0.length : Int) x13_1 = some r) ∧ Aside0 (kq ≤ k) ∧ Drawn0 w w')
  case atStart => exact ⟨_, rs, H', ⟨Nat.le_refl _⟩, dn⟩
  case round =>
   clear H'
   try clear c3
   try clear c3b0
   try clear c3b1
   try clear c3b2
   obtain ⟨x13_1, rfl, HA, HK1, ⟨m1, rfl⟩⟩ := hrel
   cases gk with
   | zero => exact zz HA.out
   | succ k1 =>
    obtain ⟨H⟩ := HA
    simp only [slices_Equal_string_string.l0] at H
    replace H := sd H
    rcases H with ⟨c4b0, H⟩ | ⟨c4b0, H⟩
    ·
     replace H := nde H; obtain ⟨c5b0, H⟩ := H; replace H := nde H; obtain ⟨c6b0, H⟩ := H; replace H := nde H; obtain ⟨c7b0, H⟩ := H; replace H := sq H
     rcases H with ⟨c8b0, c8b1, H⟩ | ⟨c8, c8b0, c8b1, H⟩
     ·
      have H' := ak H; clear H
      have p103 := zi x13_1
      have q103 := zj x13_1 l0.length
      obtain ⟨ad103, e103, hx103_0⟩ := Kd.at_string HR0.out x13_1 p103 q103
      cases e103
      replace p103 := eq_true p103
      replace q103 := eq_true q103
      have p104 := zi x13_1
      have q104 := zj x13_1 l1.length
      obtain ⟨ad104, e104, hx104_0⟩ := Kd.at_string HR1.out x13_1 p104 q104
      cases e104
      replace p104 := eq_true p104
      replace q104 := eq_true q104
      go_wp2
      repeat (go_quiet (fail); try go_wp2)
      go_roundg k1
      case measure => exact kl
      case rel => exact ⟨_, rs, H', ⟨kl⟩, dn⟩
     ·
      obtain rfl := s1 H
      have p103 := zi x13_1
      have q103 := zj x13_1 l0.length
      obtain ⟨ad103, e103, hx103_0⟩ := Kd.at_string HR0.out x13_1 p103 q103
      cases e103
      replace p103 := eq_true p103
      replace q103 := eq_true q103
      have p104 := zi x13_1
      have q104 := zj x13_1 l1.length
      obtain ⟨ad104, e104, hx104_0⟩ := Kd.at_string HR1.out x13_1 p104 q104
      cases e104
      replace p104 := eq_true p104
      replace q104 := eq_true q104
      go_wp2
      repeat (go_quiet (fail); try go_wp2)
      go_ret
      exact ⟨rs, dn⟩
    ·
     obtain rfl := s1 H
     go_wp2
     repeat (go_quiet (fail); try go_wp2)
     go_ret
     exact ⟨rs, dn⟩
 ·
  have c3b0 := beq_eq_false_iff_ne.mpr c3
  have c3b1 := bne_iff_ne.mpr c3
  have c3b2 : (l0.length == l1.length) = false := by first | simpa using c3 | (simp at c3 ⊢; omega)
  obtain rfl := s1 H
  go_enter Tryz.func63, Tryz.ntmps63
  go_wp2
  repeat (go_quiet (fail); try go_wp2)
  go_ret
  exact ⟨rs, dn⟩
def impl_TextValid.l0 : Nat → ByteArray → Int → Int → Option (Bool)
 | 0, _, _, _ => none
 | k + 1, x0, x5, x6 => if x6 < x5 then (if 0 ≤ x6 then (if x6 < (x0.size : Int) then (if (bt x0 x6) < 32 then (some false) else (if (bt x0 x6) > 126 then (some false) else (impl_TextValid.l0 k x0 x5 (wrap64 (x6 + 1))))) else (none)) else (none)) else (some (decide ((x0.size : Int) ≤ 200)))
def impl_TextValid.f (k : Nat) (a0 : ByteArray) : Option (Bool) := impl_TextValid.l0 k a0 (a0.size : Int) 0
theorem impl_TextValid.calls {k : Nat} {a0 : ByteArray} {r : Bool} {w : World} (h : impl_TextValid.f k a0 = some r) :
  Calls Tryz.prog 89 #[.string a0] w fun e w' => e = .returned (.bool r) ∧ Drawn0 w w' := by
 have H : (impl_TextValid.l0 k a0 (a0.size : Int) 0) = some r := h
 clear h
 have H' := ak H; clear H
 go_enter Tryz.func89, Tryz.ntmps89
 go_wp2
 go_loopg [6] k (fun kq v6 w' => ∃ (x6_1 : Int), v6 = .int .i64 x6_1 ∧ Aside0 (impl_TextValid.l0 kq a0 (a0.size : Int) x6_1 = some r) ∧ Aside0 (kq ≤ k) ∧ Drawn0 w w')
 case atStart => exact ⟨_, rs, H', ⟨Nat.le_refl _⟩, dn⟩
 case round =>
  clear H'
  obtain ⟨x6_1, rfl, HA, HK1, ⟨m1, rfl⟩⟩ := hrel
  cases gk with
  | zero => exact zz HA.out
  | succ k1 =>
   obtain ⟨H⟩ := HA
   simp only [impl_TextValid.l0] at H
   replace H := sd H
   rcases H with ⟨c2b0, H⟩ | ⟨c2b0, H⟩
   ·
    replace H := nde H; obtain ⟨c3b0, H⟩ := H; replace H := nde H; obtain ⟨c4b0, H⟩ := H; replace H := sd H
    rcases H with ⟨c6b0, H⟩ | ⟨c6b0, H⟩
    ·
     obtain rfl := s1 H
     obtain ⟨p5, q5, hx5⟩ := bx a0 x6_1
     go_wp2
     go_ret
     exact ⟨rs, dn⟩
    ·
     replace H := sp H
     rcases H with ⟨c8, H⟩ | ⟨c8, H⟩
     ·
      have c8b0 : decide (126 < (bt a0 x6_1)) = true := decide_eq_true c8
      clear c8
      obtain rfl := s1 H
      obtain ⟨p5, q5, hx5⟩ := bx a0 x6_1
      obtain ⟨p7, q7, hx7⟩ := bx a0 x6_1
      go_wp2
      go_ret
      exact ⟨rs, dn⟩
     ·
      have c8b0 : decide (126 < (bt a0 x6_1)) = false := decide_eq_false c8
      clear c8
      have H' := ak H; clear H
      obtain ⟨p5, q5, hx5⟩ := bx a0 x6_1
      obtain ⟨p7, q7, hx7⟩ := bx a0 x6_1
      go_wp2
      go_roundg k1
      case measure => exact kl
      case rel => exact ⟨_, rs, H', ⟨kl⟩, dn⟩
   ·
    obtain rfl := s1 H
    go_wp2
    go_ret
    exact ⟨rs, dn⟩
def strings_Trim.f (a0 : ByteArray) (a1 : ByteArray) : Option (ByteArray) := if a1.data.toList = [32] then (if a0.size ≤ 9223372036854775807 then some ⟨(Lib.trimB a0.data.toList 32).toArray⟩ else none) else none
theorem strings_Trim.calls {a0 a1 r : ByteArray} {w : World} (h : strings_Trim.f a0 a1 = some r) :
  Calls Tryz.prog 92 #[.string a0, .string a1] w fun e w' => e = .returned (.string r) ∧ Drawn0 w w' := by
 unfold strings_Trim.f at h
 split at h
 ·
  rename_i h1
  split at h
  ·
   rename_i hs
   injection h with h
   subst h
   have e1 : a1 = ⟨#[32]⟩ := by
    cases a1 with
    | mk d => exact congrArg ByteArray.mk (Array.toList_inj.mp h1)
   subst e1
   refine (Tryz.strings_Trim_one a0 32 (by decide) w hs).mono ?_
   rintro e w' ⟨he, hw⟩
   refine ⟨he, ?_⟩
   rcases hw with rfl | rfl
   ·
    exact ⟨⟨0, rfl⟩⟩
   ·
    exact ⟨⟨1, rfl⟩⟩
  ·
   cases h
 ·
  cases h
def impl_isLetter.f (a0 : Int) : Option (Bool) := if a0 ≥ 97 then (if a0 ≤ 122 then (some true) else (if a0 ≥ 65 then (some (decide (a0 ≤ 90))) else (some false))) else (if a0 ≥ 65 then (some (decide (a0 ≤ 90))) else (some false))
theorem impl_isLetter.calls {a0 : Int} {r : Bool} {w : World} (h : impl_isLetter.f a0 = some r) :
  Calls Tryz.prog 140 #[.int .u8 a0] w fun e w' => e = .returned (.bool r) ∧ Drawn0 w w' := by
 have H : (if a0 ≥ 97 then (if a0 ≤ 122 then (some true) else (if a0 ≥ 65 then (some (decide (a0 ≤ 90))) else (some false))) else (if a0 ≥ 65 then (some (decide (a0 ≤ 90))) else (some false))) = some r := h
 clear h
 replace H := sp H
 rcases H with ⟨c2, H⟩ | ⟨c2, H⟩
 ·
  have c2b0 : decide (97 ≤ a0) = true := decide_eq_true c2
  clear c2
  replace H := sd H
  rcases H with ⟨c3b0, H⟩ | ⟨c3b0, H⟩
  ·
   obtain rfl := s1 H
   go_enter Tryz.func140, Tryz.ntmps140
   go_wp2
   go_ret
   exact ⟨rs, dn⟩
  ·
   replace H := sp H
   rcases H with ⟨c4, H⟩ | ⟨c4, H⟩
   ·
    have c4b0 : decide (65 ≤ a0) = true := decide_eq_true c4
    clear c4
    obtain rfl := s1 H
    go_enter Tryz.func140, Tryz.ntmps140
    go_wp2
    go_ret
    exact ⟨rs, dn⟩
   ·
    have c4b0 : decide (65 ≤ a0) = false := decide_eq_false c4
    clear c4
    obtain rfl := s1 H
    go_enter Tryz.func140, Tryz.ntmps140
    go_wp2
    go_ret
    exact ⟨rs, dn⟩
 ·
  have c2b0 : decide (97 ≤ a0) = false := decide_eq_false c2
  clear c2
  replace H := sp H
  rcases H with ⟨c5, H⟩ | ⟨c5, H⟩
  ·
   have c5b0 : decide (65 ≤ a0) = true := decide_eq_true c5
   clear c5
   obtain rfl := s1 H
   go_enter Tryz.func140, Tryz.ntmps140
   go_wp2
   go_ret
   exact ⟨rs, dn⟩
  ·
   have c5b0 : decide (65 ≤ a0) = false := decide_eq_false c5
   clear c5
   obtain rfl := s1 H
   go_enter Tryz.func140, Tryz.ntmps140
   go_wp2
   go_ret
   exact ⟨rs, dn⟩
def impl_isDigit.f (a0 : Int) : Option (Bool) := if a0 ≥ 48 then (some (decide (a0 ≤ 57))) else (some false)
theorem impl_isDigit.calls {a0 : Int} {r : Bool} {w : World} (h : impl_isDigit.f a0 = some r) :
  Calls Tryz.prog 141 #[.int .u8 a0] w fun e w' => e = .returned (.bool r) ∧ Drawn0 w w' := by
 have H : (if a0 ≥ 48 then (some (decide (a0 ≤ 57))) else (some false)) = some r := h
 clear h
 replace H := sp H
 rcases H with ⟨c2, H⟩ | ⟨c2, H⟩
 ·
  have c2b0 : decide (48 ≤ a0) = true := decide_eq_true c2
  clear c2
  obtain rfl := s1 H
  go_enter Tryz.func141, Tryz.ntmps141
  go_wp2
  go_ret
  exact ⟨rs, dn⟩
 ·
  have c2b0 : decide (48 ≤ a0) = false := decide_eq_false c2
  clear c2
  obtain rfl := s1 H
  go_enter Tryz.func141, Tryz.ntmps141
  go_wp2
  go_ret
  exact ⟨rs, dn⟩
def impl_isName_1.f (a0 : Int) : Option (Bool) := (impl_isLetter.f a0).bind fun t110 => (if t110 = true then (some true) else ((impl_isDigit.f a0).bind fun t111 => (if t111 = true then (some true) else (some (a0 == 45)))))
theorem impl_isName_1.calls {a0 : Int} {r : Bool} {w : World} (h : impl_isName_1.f a0 = some r) :
  Calls Tryz.prog 185 #[.int .u8 a0] w fun e w' => e = .returned (.bool r) ∧ Drawn0 w w' := by
 have H : ((impl_isLetter.f a0).bind fun t110 => (if t110 = true then (some true) else ((impl_isDigit.f a0).bind fun t111 => (if t111 = true then (some true) else (some (a0 == 45)))))) = some r := h
 clear h
 replace H := bd H; obtain ⟨t110, A2, H⟩ := H; replace H := sb H
 rcases H with ⟨rfl, H⟩ | ⟨rfl, H⟩
 ·
  obtain rfl := s1 H
  go_enter Tryz.func185, Tryz.ntmps185
  go_wp2_with (refine gA Tryz.func140 (impl_isLetter.calls A2.out) ?_; intro nd)
  go_ret
  exact ⟨rs, dn⟩
 ·
  replace H := bd H; obtain ⟨t111, A4, H⟩ := H; replace H := sb H
  rcases H with ⟨rfl, H⟩ | ⟨rfl, H⟩
  ·
   obtain rfl := s1 H
   go_enter Tryz.func185, Tryz.ntmps185
   go_wp2_with (first | (refine gA Tryz.func140 (impl_isLetter.calls A2.out) ?_; intro nd) | (go_at_call 141; refine mA (impl_isDigit.calls A4.out) ?_; intro nd))
   go_ret
   exact ⟨rs, dn⟩
  ·
   obtain rfl := s1 H
   go_enter Tryz.func185, Tryz.ntmps185
   go_wp2_with (first | (refine gA Tryz.func140 (impl_isLetter.calls A2.out) ?_; intro nd) | (go_at_call 141; refine mA (impl_isDigit.calls A4.out) ?_; intro nd))
   go_ret
   exact ⟨rs, dn⟩
def impl_allBytes_isName_1.l0 : Nat → ByteArray → Int → Int → Option (Bool)
 | 0, _, _, _ => none
 | k + 1, x0, x7, x8 => if x8 < x7 then (if 0 ≤ x8 then (if x8 < (x0.size : Int) then ((impl_isName_1.f (bt x0 x8)).bind fun t112 => (if t112 = true then (impl_allBytes_isName_1.l0 k x0 x7 (wrap64 (x8 + 1))) else (some false))) else (none)) else (none)) else (some true)
def impl_allBytes_isName_1.f (k : Nat) (a0 : ByteArray)  : Option (Bool) := impl_allBytes_isName_1.l0 k a0 (a0.size : Int) 0
theorem impl_allBytes_isName_1.calls {k : Nat} {a0 : ByteArray} {r : Bool} {w : World} (h : impl_allBytes_isName_1.f k a0 = some r) :
  Calls Tryz.prog 138 #[.string a0, .func (.func 185) #[] #[]] w fun e w' => e = .returned (.bool r) ∧ Drawn0 w w' := by
 have H : (impl_allBytes_isName_1.l0 k a0 (a0.size : Int) 0) = some r := h
 clear h
 have H' := ak H; clear H
 go_enter Tryz.func138, Tryz.ntmps138
 go_wp2
 go_loopg [8] k (fun kq v8 w' => ∃ (x8_1 : Int), v8 = .int .i64 x8_1 ∧ Aside0 (impl_allBytes_isName_1.l0 kq a0 (a0.size : Int) x8_1 = some r) ∧ Aside0 (kq ≤ k) ∧ Drawn0 w w')
 case atStart => exact ⟨_, rs, H', ⟨Nat.le_refl _⟩, dn⟩
 case round =>
  clear H'
  obtain ⟨x8_1, rfl, HA, HK1, ⟨m1, rfl⟩⟩ := hrel
  cases gk with
  | zero => exact zz HA.out
  | succ k1 =>
   obtain ⟨H⟩ := HA
   simp only [impl_allBytes_isName_1.l0] at H
   replace H := sd H
   rcases H with ⟨c3b0, H⟩ | ⟨c3b0, H⟩
   ·
    replace H := nde H; obtain ⟨c4b0, H⟩ := H; replace H := nde H; obtain ⟨c5b0, H⟩ := H; replace H := bd H; obtain ⟨t112, A7, H⟩ := H; replace H := sb H
    rcases H with ⟨rfl, H⟩ | ⟨rfl, H⟩
    ·
     have H' := ak H; clear H
     obtain ⟨p6, q6, hx6⟩ := bx a0 x8_1
     go_wp2_with (go_at_call 185; refine mA (impl_isName_1.calls A7.out) ?_; intro nd)
     go_roundg k1
     case measure => exact kl
     case rel => exact ⟨_, rs, H', ⟨kl⟩, dn⟩
    ·
     obtain rfl := s1 H
     obtain ⟨p6, q6, hx6⟩ := bx a0 x8_1
     go_wp2_with (go_at_call 185; refine mA (impl_isName_1.calls A7.out) ?_; intro nd)
     go_ret
     exact ⟨rs, dn⟩
   ·
    obtain rfl := s1 H
    go_wp2
    go_ret
    exact ⟨rs, dn⟩
def impl_isName.f (k : Nat) (a0 : ByteArray) : Option (Bool) := if (a0.size : Int) ≥ 1 then (if (a0.size : Int) ≤ 30 then (if 0 < (a0.size : Int) then ((impl_isLetter.f (bt a0 0)).bind fun t113 => (if t113 = true then ((impl_allBytes_isName_1.f k a0).bind fun t114 => (some t114)) else (some false))) else (none)) else (some false)) else (some false)
theorem impl_isName.calls {k : Nat} {a0 : ByteArray} {r : Bool} {w : World} (h : impl_isName.f k a0 = some r) :
  Calls Tryz.prog 160 #[.string a0] w fun e w' => e = .returned (.bool r) ∧ Drawn0 w w' := by
 have H : (if (a0.size : Int) ≥ 1 then (if (a0.size : Int) ≤ 30 then (if 0 < (a0.size : Int) then ((impl_isLetter.f (bt a0 0)).bind fun t113 => (if t113 = true then ((impl_allBytes_isName_1.f k a0).bind fun t114 => (some t114)) else (some false))) else (none)) else (some false)) else (some false)) = some r := h
 clear h
 replace H := sp H
 rcases H with ⟨c2, H⟩ | ⟨c2, H⟩
 ·
  have c2b0 : decide (1 ≤ (a0.size : Int)) = true := decide_eq_true c2
  have c2b1 : decide (1 ≤ a0.size) = true := decide_eq_true (by omega)
  clear c2
  replace H := sp H
  rcases H with ⟨c3, H⟩ | ⟨c3, H⟩
  ·
   have c3b0 := decide_eq_true c3
   have c3b1 : decide (a0.size ≤ 30) = true := decide_eq_true (by omega)
   clear c3
   replace H := nn H; obtain ⟨c4, H⟩ := H
   have c4b0 := decide_eq_true c4
   have c4b1 : decide (0 < a0.size) = true := decide_eq_true (by omega)
   clear c4
   replace H := bd H; obtain ⟨t113, A6, H⟩ := H; replace H := sb H
   rcases H with ⟨rfl, H⟩ | ⟨rfl, H⟩
   ·
    replace H := bd H; obtain ⟨t114, A8, H⟩ := H
    obtain rfl := s1 H
    have p5 : 0 ≤ (0 : Int) := (by omega)
    have q5 : 0 < a0.size := (by have : (0 : Int) < (a0.size : Int) := of_decide_eq_true (by assumption); omega)
    have hx5 : ∀ h : 0 < a0.size, ((a0[0]'h).toNat : Int) = bt a0 0 := bt_at a0 0
    clear p5
    have qi5 : (0 < (a0.size : Int)) = True := eq_true (of_decide_eq_true (by assumption))
    replace q5 := eq_true q5
    go_enter Tryz.func160, Tryz.ntmps160
    go_wp2_with (first | (go_at_call 140; refine mA (impl_isLetter.calls A6.out) ?_; intro nd) | (go_at_call 138; refine mA (impl_allBytes_isName_1.calls A8.out) ?_; intro nd))
    go_ret
    exact ⟨rs, dn⟩
   ·
    obtain rfl := s1 H
    have p5 : 0 ≤ (0 : Int) := (by omega)
    have q5 : 0 < a0.size := (by have : (0 : Int) < (a0.size : Int) := of_decide_eq_true (by assumption); omega)
    have hx5 : ∀ h : 0 < a0.size, ((a0[0]'h).toNat : Int) = bt a0 0 := bt_at a0 0
    clear p5
    have qi5 : (0 < (a0.size : Int)) = True := eq_true (of_decide_eq_true (by assumption))
    replace q5 := eq_true q5
    go_enter Tryz.func160, Tryz.ntmps160
    go_wp2_with (go_at_call 140; refine mA (impl_isLetter.calls A6.out) ?_; intro nd)
    go_ret
    exact ⟨rs, dn⟩
  ·
   have c3b0 := decide_eq_false c3
   have c3b1 : decide (a0.size ≤ 30) = false := decide_eq_false (by omega)
   clear c3
   obtain rfl := s1 H
   go_enter Tryz.func160, Tryz.ntmps160
   go_wp2
   go_ret
   exact ⟨rs, dn⟩
 ·
  have c2b0 : decide (1 ≤ (a0.size : Int)) = false := decide_eq_false c2
  have c2b1 : decide (1 ≤ a0.size) = false := decide_eq_false (by omega)
  clear c2
  obtain rfl := s1 H
  go_enter Tryz.func160, Tryz.ntmps160
  go_wp2
  go_ret
  exact ⟨rs, dn⟩
def impl_FieldValid.f (k : Nat) (a0_0 : ByteArray) (a0_1 : ByteArray) : Option (Bool) := (impl_isName.f k a0_0).bind fun t116 => (if t116 = true then ((impl_TextValid.f k a0_1).bind fun t117 => (if t117 = true then (if (a0_1.size : Int) ≤ 150 then ((strings_Trim.f a0_1 (⟨#[32]⟩ : ByteArray)).bind fun t118 => (some (t118.toList == a0_1.toList))) else (some false)) else (some false))) else (some false))
theorem impl_FieldValid.calls {k : Nat} {a0_0 a0_1 : ByteArray} {r : Bool} {w : World} (h : impl_FieldValid.f k a0_0 a0_1 = some r) :
  Calls Tryz.prog 120 #[.agg #[.string a0_0, .string a0_1]] w fun e w' => e = .returned (.bool r) ∧ Below w.heap.size w w' := by
 have hu69 := Tryz.underlying69
 have HB := ak (Below.refl w.heap.size w)
 have H : ((impl_isName.f k a0_0).bind fun t116 => (if t116 = true then ((impl_TextValid.f k a0_1).bind fun t117 => (if t117 = true then (if (a0_1.size : Int) ≤ 150 then ((strings_Trim.f a0_1 (⟨#[32]⟩ : ByteArray)).bind fun t118 => (some (t118.toList == a0_1.toList))) else (some false)) else (some false))) else (some false))) = some r := h
 clear h
 replace H := bd H; obtain ⟨t116, A2, H⟩ := H; replace H := sb H
 rcases H with ⟨rfl, H⟩ | ⟨rfl, H⟩
 ·
  replace H := bd H; obtain ⟨t117, A4, H⟩ := H; replace H := sb H
  rcases H with ⟨rfl, H⟩ | ⟨rfl, H⟩
  ·
   replace H := sp H
   rcases H with ⟨c6, H⟩ | ⟨c6, H⟩
   ·
    have c6b0 := decide_eq_true c6
    have c6b1 : decide (a0_1.size ≤ 150) = true := decide_eq_true (by omega)
    clear c6
    replace H := bd H; obtain ⟨t118, A7, H⟩ := H
    obtain rfl := s1 H
    go_enter Tryz.func120, Tryz.ntmps120
    go_wp2_with (first | (refine gG 1 ?_; refine bX HB 1 #[.string a0_0, .string a0_1] 69 ?_; intro gb115 w8 BK115 GW115 hb; replace HB := bs HB hb; clear hb; have z9 := cz2 BK115.out) | (go_at_call 160; refine mA (impl_isName.calls A2.out) ?_; intro nd; (try exact dq)) | (go_at_call 89; refine mA (impl_TextValid.calls A4.out) ?_; intro nd; (try exact dq)) | (go_at_call 92; refine mA (strings_Trim.calls A7.out) ?_; intro nd; (try exact dq)))
    repeat (go_quiet (first | (refine gG 1 ?_; refine bX HB 1 #[.string a0_0, .string a0_1] 69 ?_; intro gb115 w8 BK115 GW115 hb; replace HB := bs HB hb; clear hb; have z9 := cz2 BK115.out) | (go_at_call 160; refine mA (impl_isName.calls A2.out) ?_; intro nd; (try exact dq)) | (go_at_call 89; refine mA (impl_TextValid.calls A4.out) ?_; intro nd; (try exact dq)) | (go_at_call 92; refine mA (strings_Trim.calls A7.out) ?_; intro nd; (try exact dq))); try go_wp2_with (first | (refine gG 1 ?_; refine bX HB 1 #[.string a0_0, .string a0_1] 69 ?_; intro gb115 w8 BK115 GW115 hb; replace HB := bs HB hb; clear hb; have z9 := cz2 BK115.out) | (go_at_call 160; refine mA (impl_isName.calls A2.out) ?_; intro nd; (try exact dq)) | (go_at_call 89; refine mA (impl_TextValid.calls A4.out) ?_; intro nd; (try exact dq)) | (go_at_call 92; refine mA (strings_Trim.calls A7.out) ?_; intro nd; (try exact dq))))
    go_ret
    exact ⟨er, bb⟩
   ·
    have c6b0 := decide_eq_false c6
    have c6b1 : decide (a0_1.size ≤ 150) = false := decide_eq_false (by omega)
    clear c6
    obtain rfl := s1 H
    go_enter Tryz.func120, Tryz.ntmps120
    go_wp2_with (first | (refine gG 1 ?_; refine bX HB 1 #[.string a0_0, .string a0_1] 69 ?_; intro gb115 w10 BK115 GW115 hb; replace HB := bs HB hb; clear hb; have z11 := cz2 BK115.out) | (go_at_call 160; refine mA (impl_isName.calls A2.out) ?_; intro nd; (try exact dq)) | (go_at_call 89; refine mA (impl_TextValid.calls A4.out) ?_; intro nd; (try exact dq)))
    repeat (go_quiet (first | (refine gG 1 ?_; refine bX HB 1 #[.string a0_0, .string a0_1] 69 ?_; intro gb115 w10 BK115 GW115 hb; replace HB := bs HB hb; clear hb; have z11 := cz2 BK115.out) | (go_at_call 160; refine mA (impl_isName.calls A2.out) ?_; intro nd; (try exact dq)) | (go_at_call 89; refine mA (impl_TextValid.calls A4.out) ?_; intro nd; (try exact dq))); try go_wp2_with (first | (refine gG 1 ?_; refine bX HB 1 #[.string a0_0, .string a0_1] 69 ?_; intro gb115 w10 BK115 GW115 hb; replace HB := bs HB hb; clear hb; have z11 := cz2 BK115.out) | (go_at_call 160; refine mA (impl_isName.calls A2.out) ?_; intro nd; (try exact dq)) | (go_at_call 89; refine mA (impl_TextValid.calls A4.out) ?_; intro nd; (try exact dq))))
    go_ret
    exact ⟨er, bb⟩
  ·
   obtain rfl := s1 H
   go_enter Tryz.func120, Tryz.ntmps120
   go_wp2_with (first | (refine gG 1 ?_; refine bX HB 1 #[.string a0_0, .string a0_1] 69 ?_; intro gb115 w12 BK115 GW115 hb; replace HB := bs HB hb; clear hb; have z13 := cz2 BK115.out) | (go_at_call 160; refine mA (impl_isName.calls A2.out) ?_; intro nd; (try exact dq)) | (go_at_call 89; refine mA (impl_TextValid.calls A4.out) ?_; intro nd; (try exact dq)))
   repeat (go_quiet (first | (refine gG 1 ?_; refine bX HB 1 #[.string a0_0, .string a0_1] 69 ?_; intro gb115 w12 BK115 GW115 hb; replace HB := bs HB hb; clear hb; have z13 := cz2 BK115.out) | (go_at_call 160; refine mA (impl_isName.calls A2.out) ?_; intro nd; (try exact dq)) | (go_at_call 89; refine mA (impl_TextValid.calls A4.out) ?_; intro nd; (try exact dq))); try go_wp2_with (first | (refine gG 1 ?_; refine bX HB 1 #[.string a0_0, .string a0_1] 69 ?_; intro gb115 w12 BK115 GW115 hb; replace HB := bs HB hb; clear hb; have z13 := cz2 BK115.out) | (go_at_call 160; refine mA (impl_isName.calls A2.out) ?_; intro nd; (try exact dq)) | (go_at_call 89; refine mA (impl_TextValid.calls A4.out) ?_; intro nd; (try exact dq))))
   go_ret
   exact ⟨er, bb⟩
 ·
  obtain rfl := s1 H
  go_enter Tryz.func120, Tryz.ntmps120
  go_wp2_with (first | (refine gG 1 ?_; refine bX HB 1 #[.string a0_0, .string a0_1] 69 ?_; intro gb115 w14 BK115 GW115 hb; replace HB := bs HB hb; clear hb; have z15 := cz2 BK115.out) | (go_at_call 160; refine mA (impl_isName.calls A2.out) ?_; intro nd; (try exact dq)))
  repeat (go_quiet (first | (refine gG 1 ?_; refine bX HB 1 #[.string a0_0, .string a0_1] 69 ?_; intro gb115 w14 BK115 GW115 hb; replace HB := bs HB hb; clear hb; have z15 := cz2 BK115.out) | (go_at_call 160; refine mA (impl_isName.calls A2.out) ?_; intro nd; (try exact dq))); try go_wp2_with (first | (refine gG 1 ?_; refine bX HB 1 #[.string a0_0, .string a0_1] 69 ?_; intro gb115 w14 BK115 GW115 hb; replace HB := bs HB hb; clear hb; have z15 := cz2 BK115.out) | (go_at_call 160; refine mA (impl_isName.calls A2.out) ?_; intro nd; (try exact dq))))
  go_ret
  exact ⟨er, bb⟩
end Go.Proofs.YtncdadcmghglkaaGreatDoor.PFnPartSame
