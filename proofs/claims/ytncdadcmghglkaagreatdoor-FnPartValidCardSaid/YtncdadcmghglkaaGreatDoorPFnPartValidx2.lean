/- Printed walks; conditions: those in each statement. -/
import Derived.Test.YtncdadcmghglkaaGreatDoorVFnPartValidQt
import Derived.Test.YtncdadcmghglkaaGreatDoorVFnPartValidYt
import Derived.Test.YtncdadcmghglkaaGreatDoorPFnPartValidx0
-- short
-- dense
-- sq
-- sq2
namespace Go.Proofs.YtncdadcmghglkaaGreatDoor.PFnPartValid
open Go.RowKit Go.Proofs.YtncdadcmghglkaaGreatDoor.X Go.Proofs.YtncdadcmghglkaaGreatDoorW.bK Go.Proofs.YtncdadcmghglkaaGreatDoorW.gY Go.Proofs.YtncdadcmghglkaaGreatDoorW.iU
attribute [local go_sem] lu lC ng ni jO jP lD lF   -- for this text's walks alone
set_option linter.unusedVariables false
set_option maxHeartbeats 8000000
set_option maxRecDepth 100000
set_option linter.unusedSimpArgs false
attribute [local go_sem high] apL
def je.l0 : Nat → List (gK) → List (gK) → Int → Int → Option (Bool)
 | 0, _, _, _, _ => none
 | k + 1, x0, x1, x12, CO => if CO < x12 then (if 0 ≤ CO then (if CO < (x0.length : Int) then (if CO < (x1.length : Int) then (if (!((((dY x0 CO).f0).toList) == (((dY x1 CO).f0).toList)) || (!((((dY x0 CO).f1).toList) == (((dY x1 CO).f1).toList)))) = true then (some false) else (je.l0 k x0 x1 x12 (wrap64 (CO + 1)))) else (none)) else (none)) else (none)) else (some true)
def je.f (k : Nat) (l0 : List (gK)) (l1 : List (gK)) : Option (Bool) := if (l0.length : Int) = (l1.length : Int) then (je.l0 k l0 l1 (l0.length : Int) 0) else (some false)
theorem je.calls {k c0 c1 : Nat} {A0 A1 : Option Addr} {l0 l1 : List (gK)} {r : Bool} {w : World} (hr0 : Kd.C pU w A0 l0.length l0) (hc0 : l0.length ≤ c0) (hr1 : Kd.C pU w A1 l1.length l1) (hc1 : l1.length ≤ c1) (h : je.f k l0 l1 = some r) :
  Calls Tryz.prog 62 #[.slice A0 l0.length c0, .slice A1 l1.length c1] w fun e w' => e = .returned (.bool r) ∧ dW w w' := by
 have DK := Tryz.underlying69
 have HR0 := ak hr0
 have zq := ak hc0
 clear hr0 hc0
 have HR1 := ak hr1
 have HC1 := ak hc1
 clear hr1 hc1
 unfold je.f at h; have H := h
 clear h
 replace H := sp H
 rcases H with ⟨c3, H⟩ | ⟨c3, H⟩
 ·
  have iP := beq_iff_eq.mpr c3
  have yU := bne_eq_false_iff_eq.mpr c3
  have U7 : (l0.length == l1.length) = true := by first | simpa using c3 | (simp at c3 ⊢; omega)
  clear c3
  have H' := ak H; clear H
  go_enter Tryz.func62, Tryz.ntmps62
  go_wp2
  repeat (go_quiet (fail); try go_wp2)
  go_loopg [13] k (fun kq v13 w' => ∃ (jA : Int), v13 = .int .i64 jA ∧ ah (je.l0 kq l0 l1 (l0.length : Int) jA = some r) ∧ ah (kq ≤ k) ∧ dW w w')
  case atStart => exact ⟨_, rs, H', ⟨Nat.le_refl _⟩, dn⟩
  case round =>
   clear H'
   try clear c3
   try clear iP
   try clear yU
   try clear U7
   obtain ⟨jA, rfl, HA, yB, ⟨m1, rfl⟩⟩ := hrel
   cases gk with
   | zero => exact zz HA.out
   | succ k1 =>
    obtain ⟨H⟩ := HA
    simp only [je.l0] at H
    replace H := sd H
    rcases H with ⟨rC, H⟩ | ⟨rC, H⟩
    ·
     replace H := oN H; obtain ⟨nR, H⟩ := H; replace H := oN H; obtain ⟨oJ, H⟩ := H; replace H := oN H; obtain ⟨sH, H⟩ := H; replace H := sp H
     rcases H with ⟨c8, H⟩ | ⟨c8, H⟩
     ·
      have uj : (!((((dY l0 jA).f0).toList) == (((dY l1 jA).f0).toList)) || (!((((dY l0 jA).f1).toList) == (((dY l1 jA).f1).toList)))) = true := c8
      clear c8
      obtain rfl := s1 H
      have Zb := zi jA
      have Zc := zj jA l0.length
      obtain ⟨ar4, anA, ahW, ahX⟩ := qC HR0.out jA Zb Zc
      cases anA
      replace Zb := eq_true Zb
      replace Zc := eq_true Zc
      have Zd := zi jA
      have Ze := zj jA l1.length
      obtain ⟨ar5, anB, ahY, ahZ⟩ := qC HR1.out jA Zd Ze
      cases anB
      replace Zd := eq_true Zd
      replace Ze := eq_true Ze
      go_wp2
      repeat (go_quiet (fail); try go_wp2)
      go_ret
      exact ⟨rs, dn⟩
     ·
      have uj : (!((((dY l0 jA).f0).toList) == (((dY l1 jA).f0).toList)) || (!((((dY l0 jA).f1).toList) == (((dY l1 jA).f1).toList)))) = false := by simpa using c8
      clear c8
      have H' := ak H; clear H
      have Zb := zi jA
      have Zc := zj jA l0.length
      obtain ⟨ar4, anA, ahW, ahX⟩ := qC HR0.out jA Zb Zc
      cases anA
      replace Zb := eq_true Zb
      replace Zc := eq_true Zc
      have Zd := zi jA
      have Ze := zj jA l1.length
      obtain ⟨ar5, anB, ahY, ahZ⟩ := qC HR1.out jA Zd Ze
      cases anB
      replace Zd := eq_true Zd
      replace Ze := eq_true Ze
      go_wp2
      repeat (go_quiet (fail); try go_wp2)
      go_roundg k1
      case measure => exact kl
      case rel => exact ⟨_, rs, H', ⟨kl⟩, dn⟩
    ·
     obtain rfl := s1 H
     go_wp2
     repeat (go_quiet (fail); try go_wp2)
     go_ret
     exact ⟨rs, dn⟩
 ·
  have iP := beq_eq_false_iff_ne.mpr c3
  have yU := bne_iff_ne.mpr c3
  have U7 : (l0.length == l1.length) = false := by first | simpa using c3 | (simp at c3 ⊢; omega)
  obtain rfl := s1 H
  go_enter Tryz.func62, Tryz.ntmps62
  go_wp2
  repeat (go_quiet (fail); try go_wp2)
  go_ret
  exact ⟨rs, dn⟩
def bU.l0 : Nat → List ByteArray → List ByteArray → Int → Int → Option (Bool)
 | 0, _, _, _, _ => none
 | k + 1, x0, x1, x12, CO => if CO < x12 then (if 0 ≤ CO then (if CO < (x0.length : Int) then (if CO < (x1.length : Int) then (if (qg ByteArray.empty x0 CO).toList = (qg ByteArray.empty x1 CO).toList then (bU.l0 k x0 x1 x12 (wrap64 (CO + 1))) else (some false)) else (none)) else (none)) else (none)) else (some true)
def bU.f (k : Nat) (l0 : List ByteArray) (l1 : List ByteArray) : Option (Bool) := if (l0.length : Int) = (l1.length : Int) then (bU.l0 k l0 l1 (l0.length : Int) 0) else (some false)
theorem bU.calls {k c0 c1 : Nat} {A0 A1 : Option Addr} {l0 l1 : List ByteArray} {r : Bool} {w : World} (hr0 : Kd.C Kd.string w A0 l0.length l0) (hc0 : l0.length ≤ c0) (hr1 : Kd.C Kd.string w A1 l1.length l1) (hc1 : l1.length ≤ c1) (h : bU.f k l0 l1 = some r) :
  Calls Tryz.prog 63 #[.slice A0 l0.length c0, .slice A1 l1.length c1] w fun e w' => e = .returned (.bool r) ∧ dW w w' := by
 have HR0 := ak hr0
 have zq := ak hc0
 clear hr0 hc0
 have HR1 := ak hr1
 have HC1 := ak hc1
 clear hr1 hc1
 unfold bU.f at h; have H := h
 clear h
 replace H := sp H
 rcases H with ⟨c3, H⟩ | ⟨c3, H⟩
 ·
  have iP := beq_iff_eq.mpr c3
  have yU := bne_eq_false_iff_eq.mpr c3
  have U7 : (l0.length == l1.length) = true := by first | simpa using c3 | (simp at c3 ⊢; omega)
  clear c3
  have H' := ak H; clear H
  go_enter Tryz.func63, Tryz.ntmps63
  go_wp2
  repeat (go_quiet (fail); try go_wp2)
  go_loopg [13] k (fun kq v13 w' => ∃ (jA : Int), v13 = .int .i64 jA ∧ ah (bU.l0 kq l0 l1 (l0.length : Int) jA = some r) ∧ ah (kq ≤ k) ∧ dW w w')
  case atStart => exact ⟨_, rs, H', ⟨Nat.le_refl _⟩, dn⟩
  case round =>
   clear H'
   try clear c3
   try clear iP
   try clear yU
   try clear U7
   obtain ⟨jA, rfl, HA, yB, ⟨m1, rfl⟩⟩ := hrel
   cases gk with
   | zero => exact zz HA.out
   | succ k1 =>
    obtain ⟨H⟩ := HA
    simp only [bU.l0] at H
    replace H := sd H
    rcases H with ⟨rC, H⟩ | ⟨rC, H⟩
    ·
     replace H := oN H; obtain ⟨nR, H⟩ := H; replace H := oN H; obtain ⟨oJ, H⟩ := H; replace H := oN H; obtain ⟨sH, H⟩ := H; replace H := sq H
     rcases H with ⟨uj, DU, H⟩ | ⟨c8, uj, DU, H⟩
     ·
      have H' := ak H; clear H
      have Zf := zi jA
      have Zg := zj jA l0.length
      obtain ⟨ar6, anC, ah0⟩ := Kd.jI HR0.out jA Zf Zg
      cases anC
      replace Zf := eq_true Zf
      replace Zg := eq_true Zg
      have Qz := zi jA
      have QA := zj jA l1.length
      obtain ⟨ajI, aee, P9⟩ := Kd.jI HR1.out jA Qz QA
      cases aee
      replace Qz := eq_true Qz
      replace QA := eq_true QA
      go_wp2
      repeat (go_quiet (fail); try go_wp2)
      go_roundg k1
      case measure => exact kl
      case rel => exact ⟨_, rs, H', ⟨kl⟩, dn⟩
     ·
      obtain rfl := s1 H
      have Zf := zi jA
      have Zg := zj jA l0.length
      obtain ⟨ar6, anC, ah0⟩ := Kd.jI HR0.out jA Zf Zg
      cases anC
      replace Zf := eq_true Zf
      replace Zg := eq_true Zg
      have Qz := zi jA
      have QA := zj jA l1.length
      obtain ⟨ajI, aee, P9⟩ := Kd.jI HR1.out jA Qz QA
      cases aee
      replace Qz := eq_true Qz
      replace QA := eq_true QA
      go_wp2
      repeat (go_quiet (fail); try go_wp2)
      go_ret
      exact ⟨rs, dn⟩
    ·
     obtain rfl := s1 H
     go_wp2
     repeat (go_quiet (fail); try go_wp2)
     go_ret
     exact ⟨rs, dn⟩
 ·
  have iP := beq_eq_false_iff_ne.mpr c3
  have yU := bne_iff_ne.mpr c3
  have U7 : (l0.length == l1.length) = false := by first | simpa using c3 | (simp at c3 ⊢; omega)
  obtain rfl := s1 H
  go_enter Tryz.func63, Tryz.ntmps63
  go_wp2
  repeat (go_quiet (fail); try go_wp2)
  go_ret
  exact ⟨rs, dn⟩
def bI.l0 : Nat → ByteArray → Int → Int → Option (Bool)
 | 0, _, _, _ => none
 | k + 1, x0, x5, x6 => if x6 < x5 then (if 0 ≤ x6 then (if x6 < (x0.size : Int) then (if (bt x0 x6) < 32 then (some false) else (if (bt x0 x6) > 126 then (some false) else (bI.l0 k x0 x5 (wrap64 (x6 + 1))))) else (none)) else (none)) else (some (decide ((x0.size : Int) ≤ 200)))
def bI.f (k : Nat) (a0 : ByteArray) : Option (Bool) := bI.l0 k a0 (a0.size : Int) 0
theorem bI.calls {k : Nat} {a0 : ByteArray} {r : Bool} {w : World} (h : bI.f k a0 = some r) :
  Calls Tryz.prog 89 #[.string a0] w fun e w' => e = .returned (.bool r) ∧ dW w w' := by
 unfold bI.f at h; have H := h
 clear h
 have H' := ak H; clear H
 go_enter Tryz.func89, Tryz.ntmps89
 go_wp2
 go_loopg [6] k (fun kq v6 w' => ∃ (jW : Int), v6 = .int .i64 jW ∧ ah (bI.l0 kq a0 (a0.size : Int) jW = some r) ∧ ah (kq ≤ k) ∧ dW w w')
 case atStart => exact ⟨_, rs, H', ⟨Nat.le_refl _⟩, dn⟩
 case round =>
  clear H'
  obtain ⟨jW, rfl, HA, yB, ⟨m1, rfl⟩⟩ := hrel
  cases gk with
  | zero => exact zz HA.out
  | succ k1 =>
   obtain ⟨H⟩ := HA
   simp only [bI.l0] at H
   replace H := sd H
   rcases H with ⟨o_, H⟩ | ⟨o_, H⟩
   ·
    replace H := oN H; obtain ⟨iP, H⟩ := H; replace H := oN H; obtain ⟨rC, H⟩ := H; replace H := sd H
    rcases H with ⟨oJ, H⟩ | ⟨oJ, H⟩
    ·
     obtain rfl := s1 H
     obtain ⟨p5, q5, hx5⟩ := bx a0 jW
     go_wp2
     go_ret
     exact ⟨rs, dn⟩
    ·
     replace H := sp H
     rcases H with ⟨c8, H⟩ | ⟨c8, H⟩
     ·
      have uj : decide (126 < (bt a0 jW)) = true := decide_eq_true c8
      clear c8
      obtain rfl := s1 H
      obtain ⟨p5, q5, hx5⟩ := bx a0 jW
      obtain ⟨p7, q7, hx7⟩ := bx a0 jW
      go_wp2
      go_ret
      exact ⟨rs, dn⟩
     ·
      have uj : decide (126 < (bt a0 jW)) = false := decide_eq_false c8
      clear c8
      have H' := ak H; clear H
      obtain ⟨p5, q5, hx5⟩ := bx a0 jW
      obtain ⟨p7, q7, hx7⟩ := bx a0 jW
      go_wp2
      go_roundg k1
      case measure => exact kl
      case rel => exact ⟨_, rs, H', ⟨kl⟩, dn⟩
   ·
    obtain rfl := s1 H
    go_wp2
    go_ret
    exact ⟨rs, dn⟩
def lJ.f (a0 : ByteArray) (a1 : ByteArray) : Option (ByteArray) := if a1.data.toList = [32] then (if a0.size ≤ 9223372036854775807 then some ⟨(Lib.trimB a0.data.toList 32).toArray⟩ else none) else none
theorem lJ.calls {a0 a1 r : ByteArray} {w : World} (h : lJ.f a0 a1 = some r) :
  Calls Tryz.prog 92 #[.string a0, .string a1] w fun e w' => e = .returned (.string r) ∧ dW w w' := by
 unfold lJ.f at h
 split at h
 ·
  rename_i h1
  split at h
  ·
   rename_i hs
   injection h with h
   subst h
   have e1 : a1 = ⟨#[32]⟩ := by
    cases a1 with
    | mk d => exact congrArg ByteArray.mk (Array.toList_inj.mp h1)
   subst e1
   refine (Tryz.strings_Trim_one a0 32 (by decide) w hs).mono ?_
   rintro e w' ⟨he, hw⟩
   refine ⟨he, ?_⟩
   rcases hw with rfl | rfl
   ·
    exact ⟨⟨0, rfl⟩⟩
   ·
    exact ⟨⟨1, rfl⟩⟩
  ·
   cases h
 ·
  cases h
def bP.f (a0 : Int) : Option (Bool) := if a0 ≥ 97 then (if a0 ≤ 122 then (some true) else (if a0 ≥ 65 then (some (decide (a0 ≤ 90))) else (some false))) else (if a0 ≥ 65 then (some (decide (a0 ≤ 90))) else (some false))
theorem bP.calls {a0 : Int} {r : Bool} {w : World} (h : bP.f a0 = some r) :
  Calls Tryz.prog 140 #[.int .u8 a0] w fun e w' => e = .returned (.bool r) ∧ dW w w' := by
 unfold bP.f at h; have H := h
 clear h
 replace H := sp H
 rcases H with ⟨c2, H⟩ | ⟨c2, H⟩
 ·
  have o_ : decide (97 ≤ a0) = true := decide_eq_true c2
  clear c2
  replace H := sd H
  rcases H with ⟨iP, H⟩ | ⟨iP, H⟩
  ·
   obtain rfl := s1 H
   go_enter Tryz.func140, Tryz.ntmps140
   go_wp2
   go_ret
   exact ⟨rs, dn⟩
  ·
   replace H := sp H
   rcases H with ⟨c4, H⟩ | ⟨c4, H⟩
   ·
    have rC : decide (65 ≤ a0) = true := decide_eq_true c4
    clear c4
    obtain rfl := s1 H
    go_enter Tryz.func140, Tryz.ntmps140
    go_wp2
    go_ret
    exact ⟨rs, dn⟩
   ·
    have rC : decide (65 ≤ a0) = false := decide_eq_false c4
    clear c4
    obtain rfl := s1 H
    go_enter Tryz.func140, Tryz.ntmps140
    go_wp2
    go_ret
    exact ⟨rs, dn⟩
 ·
  have o_ : decide (97 ≤ a0) = false := decide_eq_false c2
  clear c2
  replace H := sp H
  rcases H with ⟨c5, H⟩ | ⟨c5, H⟩
  ·
   have nR : decide (65 ≤ a0) = true := decide_eq_true c5
   clear c5
   obtain rfl := s1 H
   go_enter Tryz.func140, Tryz.ntmps140
   go_wp2
   go_ret
   exact ⟨rs, dn⟩
  ·
   have nR : decide (65 ≤ a0) = false := decide_eq_false c5
   clear c5
   obtain rfl := s1 H
   go_enter Tryz.func140, Tryz.ntmps140
   go_wp2
   go_ret
   exact ⟨rs, dn⟩
def dO.f (a0 : Int) : Option (Bool) := if a0 ≥ 48 then (some (decide (a0 ≤ 57))) else (some false)
theorem dO.calls {a0 : Int} {r : Bool} {w : World} (h : dO.f a0 = some r) :
  Calls Tryz.prog 141 #[.int .u8 a0] w fun e w' => e = .returned (.bool r) ∧ dW w w' := by
 unfold dO.f at h; have H := h
 clear h
 replace H := sp H
 rcases H with ⟨c2, H⟩ | ⟨c2, H⟩
 ·
  have o_ : decide (48 ≤ a0) = true := decide_eq_true c2
  clear c2
  obtain rfl := s1 H
  go_enter Tryz.func141, Tryz.ntmps141
  go_wp2
  go_ret
  exact ⟨rs, dn⟩
 ·
  have o_ : decide (48 ≤ a0) = false := decide_eq_false c2
  clear c2
  obtain rfl := s1 H
  go_enter Tryz.func141, Tryz.ntmps141
  go_wp2
  go_ret
  exact ⟨rs, dn⟩
def rV.f (a0 : Int) : Option (Bool) := (bP.f a0).bind fun ar7 => (if ar7 = true then (some true) else ((dO.f a0).bind fun ar8 => (if ar8 = true then (some true) else (some (a0 == 45)))))
theorem rV.calls {a0 : Int} {r : Bool} {w : World} (h : rV.f a0 = some r) :
  Calls Tryz.prog 185 #[.int .u8 a0] w fun e w' => e = .returned (.bool r) ∧ dW w w' := by
 unfold rV.f at h; have H := h
 clear h
 replace H := bd H; obtain ⟨ar7, A2, H⟩ := H; replace H := sb H
 rcases H with ⟨rfl, H⟩ | ⟨rfl, H⟩
 ·
  obtain rfl := s1 H
  go_enter Tryz.func185, Tryz.ntmps185
  go_wp2_with (refine gA Tryz.func140 (bP.calls A2.out) ?_; intro nd)
  go_ret
  exact ⟨rs, dn⟩
 ·
  replace H := bd H; obtain ⟨ar8, A4, H⟩ := H; replace H := sb H
  rcases H with ⟨rfl, H⟩ | ⟨rfl, H⟩
  ·
   obtain rfl := s1 H
   go_enter Tryz.func185, Tryz.ntmps185
   go_wp2_with (first | (refine gA Tryz.func140 (bP.calls A2.out) ?_; intro nd) | (go_at_call 141; refine mA (dO.calls A4.out) ?_; intro nd))
   go_ret
   exact ⟨rs, dn⟩
  ·
   obtain rfl := s1 H
   go_enter Tryz.func185, Tryz.ntmps185
   go_wp2_with (first | (refine gA Tryz.func140 (bP.calls A2.out) ?_; intro nd) | (go_at_call 141; refine mA (dO.calls A4.out) ?_; intro nd))
   go_ret
   exact ⟨rs, dn⟩
def fE.l0 : Nat → ByteArray → Int → Int → Option (Bool)
 | 0, _, _, _ => none
 | k + 1, x0, x7, x8 => if x8 < x7 then (if 0 ≤ x8 then (if x8 < (x0.size : Int) then ((rV.f (bt x0 x8)).bind fun Xe => (if Xe = true then (fE.l0 k x0 x7 (wrap64 (x8 + 1))) else (some false))) else (none)) else (none)) else (some true)
def fE.f (k : Nat) (a0 : ByteArray)  : Option (Bool) := fE.l0 k a0 (a0.size : Int) 0
theorem fE.calls {k : Nat} {a0 : ByteArray} {r : Bool} {w : World} (h : fE.f k a0 = some r) :
  Calls Tryz.prog 138 #[.string a0, .func (.func 185) #[] #[]] w fun e w' => e = .returned (.bool r) ∧ dW w w' := by
 unfold fE.f at h; have H := h
 clear h
 have H' := ak H; clear H
 go_enter Tryz.func138, Tryz.ntmps138
 go_wp2
 go_loopg [8] k (fun kq v8 w' => ∃ (lK : Int), v8 = .int .i64 lK ∧ ah (fE.l0 kq a0 (a0.size : Int) lK = some r) ∧ ah (kq ≤ k) ∧ dW w w')
 case atStart => exact ⟨_, rs, H', ⟨Nat.le_refl _⟩, dn⟩
 case round =>
  clear H'
  obtain ⟨lK, rfl, HA, yB, ⟨m1, rfl⟩⟩ := hrel
  cases gk with
  | zero => exact zz HA.out
  | succ k1 =>
   obtain ⟨H⟩ := HA
   simp only [fE.l0] at H
   replace H := sd H
   rcases H with ⟨iP, H⟩ | ⟨iP, H⟩
   ·
    replace H := oN H; obtain ⟨rC, H⟩ := H; replace H := oN H; obtain ⟨nR, H⟩ := H; replace H := bd H; obtain ⟨Xe, A7, H⟩ := H; replace H := sb H
    rcases H with ⟨rfl, H⟩ | ⟨rfl, H⟩
    ·
     have H' := ak H; clear H
     obtain ⟨p6, q6, hx6⟩ := bx a0 lK
     go_wp2_with (go_at_call 185; refine mA (rV.calls A7.out) ?_; intro nd)
     go_roundg k1
     case measure => exact kl
     case rel => exact ⟨_, rs, H', ⟨kl⟩, dn⟩
    ·
     obtain rfl := s1 H
     obtain ⟨p6, q6, hx6⟩ := bx a0 lK
     go_wp2_with (go_at_call 185; refine mA (rV.calls A7.out) ?_; intro nd)
     go_ret
     exact ⟨rs, dn⟩
   ·
    obtain rfl := s1 H
    go_wp2
    go_ret
    exact ⟨rs, dn⟩
def jE.f (k : Nat) (a0 : ByteArray) : Option (Bool) := if (a0.size : Int) ≥ 1 then (if (a0.size : Int) ≤ 30 then (if 0 < (a0.size : Int) then ((bP.f (bt a0 0)).bind fun ar9 => (if ar9 = true then ((fE.f k a0).bind fun ar_ => (some ar_)) else (some false))) else (none)) else (some false)) else (some false)
theorem jE.calls {k : Nat} {a0 : ByteArray} {r : Bool} {w : World} (h : jE.f k a0 = some r) :
  Calls Tryz.prog 160 #[.string a0] w fun e w' => e = .returned (.bool r) ∧ dW w w' := by
 unfold jE.f at h; have H := h
 clear h
 replace H := sp H
 rcases H with ⟨c2, H⟩ | ⟨c2, H⟩
 ·
  have o_ : decide (1 ≤ (a0.size : Int)) = true := decide_eq_true c2
  have wu : decide (1 ≤ a0.size) = true := decide_eq_true (by omega)
  clear c2
  replace H := sp H
  rcases H with ⟨c3, H⟩ | ⟨c3, H⟩
  ·
   have iP := decide_eq_true c3
   have yU : decide (a0.size ≤ 30) = true := decide_eq_true (by omega)
   clear c3
   replace H := nn H; obtain ⟨c4, H⟩ := H
   have rC := decide_eq_true c4
   have Td : decide (0 < a0.size) = true := decide_eq_true (by omega)
   clear c4
   replace H := bd H; obtain ⟨ar9, A6, H⟩ := H; replace H := sb H
   rcases H with ⟨rfl, H⟩ | ⟨rfl, H⟩
   ·
    replace H := bd H; obtain ⟨ar_, A8, H⟩ := H
    obtain rfl := s1 H
    have p5 : 0 ≤ (0 : Int) := (by omega)
    have q5 : 0 < a0.size := (by have : (0 : Int) < (a0.size : Int) := of_decide_eq_true (by assumption); omega)
    have hx5 : ∀ h : 0 < a0.size, ((a0[0]'h).toNat : Int) = bt a0 0 := xg a0 0
    clear p5
    have qi5 : (0 < (a0.size : Int)) = True := eq_true (of_decide_eq_true (by assumption))
    replace q5 := eq_true q5
    go_enter Tryz.func160, Tryz.ntmps160
    go_wp2_with (first | (go_at_call 140; refine mA (bP.calls A6.out) ?_; intro nd) | (go_at_call 138; refine mA (fE.calls A8.out) ?_; intro nd))
    go_ret
    exact ⟨rs, dn⟩
   ·
    obtain rfl := s1 H
    have p5 : 0 ≤ (0 : Int) := (by omega)
    have q5 : 0 < a0.size := (by have : (0 : Int) < (a0.size : Int) := of_decide_eq_true (by assumption); omega)
    have hx5 : ∀ h : 0 < a0.size, ((a0[0]'h).toNat : Int) = bt a0 0 := xg a0 0
    clear p5
    have qi5 : (0 < (a0.size : Int)) = True := eq_true (of_decide_eq_true (by assumption))
    replace q5 := eq_true q5
    go_enter Tryz.func160, Tryz.ntmps160
    go_wp2_with (go_at_call 140; refine mA (bP.calls A6.out) ?_; intro nd)
    go_ret
    exact ⟨rs, dn⟩
  ·
   have iP := decide_eq_false c3
   have yU : decide (a0.size ≤ 30) = false := decide_eq_false (by omega)
   clear c3
   obtain rfl := s1 H
   go_enter Tryz.func160, Tryz.ntmps160
   go_wp2
   go_ret
   exact ⟨rs, dn⟩
 ·
  have o_ : decide (1 ≤ (a0.size : Int)) = false := decide_eq_false c2
  have wu : decide (1 ≤ a0.size) = false := decide_eq_false (by omega)
  clear c2
  obtain rfl := s1 H
  go_enter Tryz.func160, Tryz.ntmps160
  go_wp2
  go_ret
  exact ⟨rs, dn⟩
def qV.f (k : Nat) (fC : ByteArray) (fH : ByteArray) : Option (Bool) := (jE.f k fC).bind fun t116 => (if t116 = true then ((bI.f k fH).bind fun t117 => (if t117 = true then (if (fH.size : Int) ≤ 150 then ((lJ.f fH (⟨#[32]⟩ : ByteArray)).bind fun asa => (some (asa.toList == fH.toList))) else (some false)) else (some false))) else (some false))
theorem qV.calls {k : Nat} {fC fH : ByteArray} {r : Bool} {w : World} (h : qV.f k fC fH = some r) :
  Calls Tryz.prog 120 #[.agg #[.string fC, .string fH]] w fun e w' => e = .returned (.bool r) ∧ Below w.heap.size w w' := by
 have DK := Tryz.underlying69
 have HB := ak (Below.refl w.heap.size w)
 unfold qV.f at h; have H := h
 clear h
 replace H := bd H; obtain ⟨t116, A2, H⟩ := H; replace H := sb H
 rcases H with ⟨rfl, H⟩ | ⟨rfl, H⟩
 ·
  replace H := bd H; obtain ⟨t117, A4, H⟩ := H; replace H := sb H
  rcases H with ⟨rfl, H⟩ | ⟨rfl, H⟩
  ·
   replace H := sp H
   rcases H with ⟨c6, H⟩ | ⟨c6, H⟩
   ·
    have oJ := decide_eq_true c6
    have yT : decide (fH.size ≤ 150) = true := decide_eq_true (by omega)
    clear c6
    replace H := bd H; obtain ⟨asa, A7, H⟩ := H
    obtain rfl := s1 H
    go_enter Tryz.func120, Tryz.ntmps120
    go_wp2_with (first | (refine gG 1 ?_; refine bX HB 1 #[.string fC, .string fH] 69 ?_; intro Gq w8 wK Gs hb; replace HB := bs HB hb; clear hb; have z9 := AX wK.out) | (go_at_call 160; refine mA (jE.calls A2.out) ?_; intro nd; (try exact dq)) | (go_at_call 89; refine mA (bI.calls A4.out) ?_; intro nd; (try exact dq)) | (go_at_call 92; refine mA (lJ.calls A7.out) ?_; intro nd; (try exact dq)))
    repeat (go_quiet (first | (refine gG 1 ?_; refine bX HB 1 #[.string fC, .string fH] 69 ?_; intro Gq w8 wK Gs hb; replace HB := bs HB hb; clear hb; have z9 := AX wK.out) | (go_at_call 160; refine mA (jE.calls A2.out) ?_; intro nd; (try exact dq)) | (go_at_call 89; refine mA (bI.calls A4.out) ?_; intro nd; (try exact dq)) | (go_at_call 92; refine mA (lJ.calls A7.out) ?_; intro nd; (try exact dq))); try go_wp2_with (first | (refine gG 1 ?_; refine bX HB 1 #[.string fC, .string fH] 69 ?_; intro Gq w8 wK Gs hb; replace HB := bs HB hb; clear hb; have z9 := AX wK.out) | (go_at_call 160; refine mA (jE.calls A2.out) ?_; intro nd; (try exact dq)) | (go_at_call 89; refine mA (bI.calls A4.out) ?_; intro nd; (try exact dq)) | (go_at_call 92; refine mA (lJ.calls A7.out) ?_; intro nd; (try exact dq))))
    go_ret
    exact ⟨er, bb⟩
   ·
    have oJ := decide_eq_false c6
    have yT : decide (fH.size ≤ 150) = false := decide_eq_false (by omega)
    clear c6
    obtain rfl := s1 H
    go_enter Tryz.func120, Tryz.ntmps120
    go_wp2_with (first | (refine gG 1 ?_; refine bX HB 1 #[.string fC, .string fH] 69 ?_; intro Gq w10 wK Gs hb; replace HB := bs HB hb; clear hb; have z11 := AX wK.out) | (go_at_call 160; refine mA (jE.calls A2.out) ?_; intro nd; (try exact dq)) | (go_at_call 89; refine mA (bI.calls A4.out) ?_; intro nd; (try exact dq)))
    repeat (go_quiet (first | (refine gG 1 ?_; refine bX HB 1 #[.string fC, .string fH] 69 ?_; intro Gq w10 wK Gs hb; replace HB := bs HB hb; clear hb; have z11 := AX wK.out) | (go_at_call 160; refine mA (jE.calls A2.out) ?_; intro nd; (try exact dq)) | (go_at_call 89; refine mA (bI.calls A4.out) ?_; intro nd; (try exact dq))); try go_wp2_with (first | (refine gG 1 ?_; refine bX HB 1 #[.string fC, .string fH] 69 ?_; intro Gq w10 wK Gs hb; replace HB := bs HB hb; clear hb; have z11 := AX wK.out) | (go_at_call 160; refine mA (jE.calls A2.out) ?_; intro nd; (try exact dq)) | (go_at_call 89; refine mA (bI.calls A4.out) ?_; intro nd; (try exact dq))))
    go_ret
    exact ⟨er, bb⟩
  ·
   obtain rfl := s1 H
   go_enter Tryz.func120, Tryz.ntmps120
   go_wp2_with (first | (refine gG 1 ?_; refine bX HB 1 #[.string fC, .string fH] 69 ?_; intro Gq w12 wK Gs hb; replace HB := bs HB hb; clear hb; have z13 := AX wK.out) | (go_at_call 160; refine mA (jE.calls A2.out) ?_; intro nd; (try exact dq)) | (go_at_call 89; refine mA (bI.calls A4.out) ?_; intro nd; (try exact dq)))
   repeat (go_quiet (first | (refine gG 1 ?_; refine bX HB 1 #[.string fC, .string fH] 69 ?_; intro Gq w12 wK Gs hb; replace HB := bs HB hb; clear hb; have z13 := AX wK.out) | (go_at_call 160; refine mA (jE.calls A2.out) ?_; intro nd; (try exact dq)) | (go_at_call 89; refine mA (bI.calls A4.out) ?_; intro nd; (try exact dq))); try go_wp2_with (first | (refine gG 1 ?_; refine bX HB 1 #[.string fC, .string fH] 69 ?_; intro Gq w12 wK Gs hb; replace HB := bs HB hb; clear hb; have z13 := AX wK.out) | (go_at_call 160; refine mA (jE.calls A2.out) ?_; intro nd; (try exact dq)) | (go_at_call 89; refine mA (bI.calls A4.out) ?_; intro nd; (try exact dq))))
   go_ret
   exact ⟨er, bb⟩
 ·
  obtain rfl := s1 H
  go_enter Tryz.func120, Tryz.ntmps120
  go_wp2_with (first | (refine gG 1 ?_; refine bX HB 1 #[.string fC, .string fH] 69 ?_; intro Gq Tc wK Gs hb; replace HB := bs HB hb; clear hb; have OH := AX wK.out) | (go_at_call 160; refine mA (jE.calls A2.out) ?_; intro nd; (try exact dq)))
  repeat (go_quiet (first | (refine gG 1 ?_; refine bX HB 1 #[.string fC, .string fH] 69 ?_; intro Gq Tc wK Gs hb; replace HB := bs HB hb; clear hb; have OH := AX wK.out) | (go_at_call 160; refine mA (jE.calls A2.out) ?_; intro nd; (try exact dq))); try go_wp2_with (first | (refine gG 1 ?_; refine bX HB 1 #[.string fC, .string fH] 69 ?_; intro Gq Tc wK Gs hb; replace HB := bs HB hb; clear hb; have OH := AX wK.out) | (go_at_call 160; refine mA (jE.calls A2.out) ?_; intro nd; (try exact dq))))
  go_ret
  exact ⟨er, bb⟩
mutual
def jo.f : Nat → List (gK) → List ByteArray → List (mV) → List (gK) → List ByteArray → List (mV) → Option (Bool)
 | 0, _, _, _, _, _, _ => none
 | k + 1, dG, cO, aC, pz, oV, oM => (je.f k dG pz).bind fun t107 => (if t107 = true then ((bU.f k cO oV).bind fun adx => (if adx = true then ((if (aC.length : Int) = (oM.length : Int) then (gU.l0 k oM aC (aC.length : Int) 0) else (some false)).bind fun t109 => (some t109)) else (some false))) else (some false))
def gU.l0 : Nat → List (mV) → List (mV) → Int → Int → Option (Bool)
 | 0, _, _, _, _ => none
 | k + 1, x1, x15, x16, x17 => if x17 < x16 then (if 0 ≤ x17 then (if x17 < (x15.length : Int) then (if x17 < (x1.length : Int) then ((jo.f k ((aN x15 x17).f0) ((aN x15 x17).f1) ((aN x15 x17).f2) ((aN x1 x17).f0) ((aN x1 x17).f1) ((aN x1 x17).f2)).bind fun ZA => (if ZA = true then (gU.l0 k x1 x15 x16 (wrap64 (x17 + 1))) else (some false))) else (none)) else (none)) else (none)) else (some true)
end
def gU.f (k : Nat) (l0 : List (mV)) (l1 : List (mV))  : Option (Bool) := if (l0.length : Int) = (l1.length : Int) then (gU.l0 k l1 l0 (l0.length : Int) 0) else (some false)
theorem jo.YR (k : Nat) (dG : List (gK)) (cO : List ByteArray) (aC : List (mV)) (pz : List (gK)) (oV : List ByteArray) (oM : List (mV)) : jo.f (k + 1) dG cO aC pz oV oM = ((je.f k dG pz).bind fun t107 => (if t107 = true then ((bU.f k cO oV).bind fun adx => (if adx = true then ((gU.f k aC oM).bind fun t109 => (some t109)) else (some false))) else (some false))) := by simp only [jo.f, gU.f]
theorem jo.pair (k : Nat) : (∀ (jl : Option Addr) (jm : Nat) (dG : List (gK)) (ji : Option Addr) (jk : Nat) (cO : List ByteArray) (iC : Option Addr) (fM : Nat) (aC : List (mV)) (vS : Option Addr) (vN : Nat) (pz : List (gK)) (vC : Option Addr) (vO : Nat) (oV : List ByteArray) (vT : Option Addr) (vP : Nat) (oM : List (mV)) (r : Bool) (w : World) (mW : Kd.C pU w jl dG.length dG) (mX : dG.length ≤ jm) (mY : Kd.C Kd.string w ji cO.length cO) (mZ : cO.length ≤ jk) (jY : Kd.C k28 w iC aC.length aC) (jZ : aC.length ≤ fM) (La : Kd.C pU w vS pz.length pz) (Lc : pz.length ≤ vN) (Ld : Kd.C Kd.string w vC oV.length oV) (Le : oV.length ≤ vO) (Lh : Kd.C k28 w vT oM.length oM) (Lj : oM.length ≤ vP) (h : jo.f k dG cO aC pz oV oM = some r),
  Calls Tryz.prog 21 #[.agg #[.slice jl dG.length jm, .slice ji cO.length jk, .slice iC aC.length fM], .agg #[.slice vS pz.length vN, .slice vC oV.length vO, .slice vT oM.length vP]] w fun e w' => e = .returned (.bool r) ∧ Below w.heap.size w w') ∧
  (∀ (A0 : Option Addr) (c0 : Nat) (l0 : List (mV)) (A1 : Option Addr) (c1 : Nat) (l1 : List (mV)) (r : Bool) (w : World) (hr0 : Kd.C k28 w A0 l0.length l0) (hc0 : l0.length ≤ c0) (hr1 : Kd.C k28 w A1 l1.length l1) (hc1 : l1.length ≤ c1) (h : gU.f k l0 l1 = some r),
  Calls Tryz.prog 64 #[.slice A0 l0.length c0, .slice A1 l1.length c1, .func (.func 21) #[] #[]] w fun e w' => e = .returned (.bool r) ∧ Below w.heap.size w w') := by
 induction k using Nat.strongRecOn with
 | _ k ih =>
 refine ⟨?_, ?_⟩
 ·
  cases k with
  | zero => intro jl jm dG ji jk cO iC fM aC vS vN pz vC vO oV vT vP oM r w mW mX mY mZ jY jZ La Lc Ld Le Lh Lj h; exact absurd h (by simp [jo.f])
  | succ k =>
  have ihB := (ih k (Nat.lt_succ_self k)).2
  clear ih
  intro jl jm dG ji jk cO iC fM aC vS vN pz vC vO oV vT vP oM r w mW mX mY mZ jY jZ La Lc Ld Le Lh Lj h
  rw [jo.YR] at h
  have Et := Tryz.underlying28
  have qE := ak mW
  have qX := ak mX
  clear mW mX
  have uH := ak mY
  have wY := ak mZ
  clear mY mZ
  have jQ := ak jY
  have nC := ak jZ
  clear jY jZ
  have O5 := ak La
  have O6 := ak Lc
  clear La Lc
  have Rl := ak Ld
  have Rn := ak Le
  clear Ld Le
  have Uh := ak Lh
  have Ui := ak Lj
  clear Lh Lj
  have HB := ak (Below.refl w.heap.size w)
  have H : ((je.f k dG pz).bind fun t107 => (if t107 = true then ((bU.f k cO oV).bind fun adx => (if adx = true then ((gU.f k aC oM).bind fun t109 => (some t109)) else (some false))) else (some false))) = some r := h
  clear h
  replace H := bd H; obtain ⟨t107, A3, H⟩ := H; replace H := sb H
  rcases H with ⟨rfl, H⟩ | ⟨rfl, H⟩
  ·
   replace H := bd H; obtain ⟨adx, A5, H⟩ := H; replace H := sb H
   rcases H with ⟨rfl, H⟩ | ⟨rfl, H⟩
   ·
    replace H := bd H; obtain ⟨t109, A7, H⟩ := H
    obtain rfl := s1 H
    go_enter Tryz.func21, Tryz.ntmps21
    go_wp2_with (first | (refine bX HB 2 #[.slice jl dG.length jm, .slice ji cO.length jk, .slice iC aC.length fM] 28 ?_; intro Aa w8 uy aef hb; replace HB := bs HB hb; clear hb) | (refine bY HB 3 #[.slice vS pz.length vN, .slice vC oV.length vO, .slice vT oM.length vP] 28 ?_; intro amb w9 Ry amc hg hb; have Eb := Au uy hg; have Ec := Aw uy hg; replace uy := kb uy hb; replace HB := bz HB hb; clear hb hg; have avc := Eb.out; have avd := Ec.out; have z11 := ku uy.out; have z12 := ku Ry.out) | (refine gA Tryz.func62 (je.calls (cu (Kd.aW qE.out HB.out)) qX.out (cu (Kd.aW O5.out HB.out)) O6.out A3.out) ?_; intro nd) | (go_at_call 63; refine mA (bU.calls (cu (Kd.aW uH.out bb)) wY.out (cu (Kd.aW Rl.out bb)) Rn.out A5.out) ?_; intro nd) | (go_at_call 64; refine mB (ihB _ _ aC _ _ oM  t109 _ (cu (Kd.aW jQ.out bb)) nC.out (cu (Kd.aW Uh.out bb)) Ui.out A7.out) ?_; intro w13 hb; replace uy := kb uy hb; replace Ry := kb Ry hb; replace HB := bz HB hb; clear hb))
    go_ret
    exact ⟨er, bb⟩
   ·
    obtain rfl := s1 H
    go_enter Tryz.func21, Tryz.ntmps21
    go_wp2_with (first | (refine bX HB 2 #[.slice jl dG.length jm, .slice ji cO.length jk, .slice iC aC.length fM] 28 ?_; intro Aa Tc uy aef hb; replace HB := bs HB hb; clear hb) | (refine bY HB 3 #[.slice vS pz.length vN, .slice vC oV.length vO, .slice vT oM.length vP] 28 ?_; intro amb w15 Ry amc hg hb; have Eb := Au uy hg; have Ec := Aw uy hg; replace uy := kb uy hb; replace HB := bz HB hb; clear hb hg; have ave := Eb.out; have avf := Ec.out; have z17 := ku uy.out; have z18 := ku Ry.out) | (refine gA Tryz.func62 (je.calls (cu (Kd.aW qE.out HB.out)) qX.out (cu (Kd.aW O5.out HB.out)) O6.out A3.out) ?_; intro nd) | (go_at_call 63; refine mA (bU.calls (cu (Kd.aW uH.out bb)) wY.out (cu (Kd.aW Rl.out bb)) Rn.out A5.out) ?_; intro nd))
    go_ret
    exact ⟨er, bb⟩
  ·
   obtain rfl := s1 H
   go_enter Tryz.func21, Tryz.ntmps21
   go_wp2_with (first | (refine bX HB 2 #[.slice jl dG.length jm, .slice ji cO.length jk, .slice iC aC.length fM] 28 ?_; intro Aa YM uy aef hb; replace HB := bs HB hb; clear hb) | (refine bY HB 3 #[.slice vS pz.length vN, .slice vC oV.length vO, .slice vT oM.length vP] 28 ?_; intro amb w20 Ry amc hg hb; have Eb := Au uy hg; have Ec := Aw uy hg; replace uy := kb uy hb; replace HB := bz HB hb; clear hb hg; have avM := Eb.out; have avN := Ec.out; have z22 := ku uy.out; have z23 := ku Ry.out) | (refine gA Tryz.func62 (je.calls (cu (Kd.aW qE.out HB.out)) qX.out (cu (Kd.aW O5.out HB.out)) O6.out A3.out) ?_; intro nd))
   go_ret
   exact ⟨er, bb⟩
 ·
  intro A0 c0 l0 A1 c1 l1 r w hr0 hc0 hr1 hc1 h
  have Et := Tryz.underlying28
  have HR0 := ak hr0
  have zq := ak hc0
  clear hr0 hc0
  have HR1 := ak hr1
  have HC1 := ak hc1
  clear hr1 hc1
  have HB := ak (Below.refl w.heap.size w)
  have H : (if (l0.length : Int) = (l1.length : Int) then (gU.l0 k l1 l0 (l0.length : Int) 0) else (some false)) = some r := h
  clear h
  replace H := sp H
  rcases H with ⟨c4, H⟩ | ⟨c4, H⟩
  ·
   have rC := beq_iff_eq.mpr c4
   have Td := bne_eq_false_iff_eq.mpr c4
   have aeE : (l0.length == l1.length) = true := by first | simpa using c4 | (simp at c4 ⊢; omega)
   clear c4
   have H' := ak H; clear H
   go_enter Tryz.func64, Tryz.ntmps64
   go_wp2
   go_loopg [17] k (fun kq v17 w' => ∃ (iZ : Int), v17 = .int .i64 iZ ∧ ah (gU.l0 kq l1 l0 (l0.length : Int) iZ = some r) ∧ ah (kq ≤ k) ∧ ah (Below w.heap.size w w'))
   case atStart => exact ⟨_, rs, H', ⟨Nat.le_refl _⟩, ⟨ul HB.out⟩⟩
   case round =>
    clear H'
    try clear c1
    try clear c4
    try clear rC
    try clear Td
    try clear aeE
    obtain ⟨iZ, rfl, HA, yB, HB⟩ := hrel
    cases gk with
    | zero => exact zz HA.out
    | succ k1 =>
     obtain ⟨H⟩ := HA
     simp only [gU.l0] at H
     replace H := sd H
     rcases H with ⟨nR, H⟩ | ⟨nR, H⟩
     ·
      replace H := oN H; obtain ⟨oJ, H⟩ := H; replace H := oN H; obtain ⟨sH, H⟩ := H; replace H := oN H; obtain ⟨uj, H⟩ := H; replace H := bd H; obtain ⟨ZA, A9, H⟩ := H; replace H := sb H
      rcases H with ⟨rfl, H⟩ | ⟨rfl, H⟩
      ·
       have H' := ak H; clear H
       have ZJ := zi iZ
       have ZK := zj iZ l0.length
       obtain ⟨avO, xX, xY, xZ, yc, yg, yh, aoU, LC, LD, LG, LH, LJ, LK, LM, LP, LQ⟩ := zD HR0.out iZ ZJ ZK
       cases aoU
       replace LC := cl HB.out LC
       replace LD := cl HB.out LD
       replace LG := cl HB.out LG
       have V8 := ak LJ
       have V9 := ak LH
       clear LJ LH
       have V_ := ak LM
       have Wh := ak LK
       clear LM LK
       have Wi := ak LQ
       have Wj := ak LP
       clear LQ LP
       replace ZJ := eq_true ZJ
       replace ZK := eq_true ZK
       go_wp2_with (first | (refine bX HB 8 #[.slice none 0 0, .slice none 0 0, .slice none 0 0] 28 ?_; intro qZ U2 Ed Rz hb; replace HB := bs HB hb; clear hb; have z12 := ku Ed.out; have ZL : 0 ≤ (iZ : Int) := of_decide_eq_true (by assumption); have ZM : iZ < (l1.length : Int) := of_decide_eq_true (by assumption); obtain ⟨RD, ZN, ZO, ZP, ZQ, ZR, ZT, aoV, og, rF, rG, LU, LV, LW, LX, LY, LZ⟩ := zD HR1.out iZ ZL ZM; cases aoV; have qy : RD.block ≠ qZ := Nat.ne_of_lt (Nat.lt_of_lt_of_le (by have := World.block_lt_of_cell? _ _ og; first | rwa [add_block] at this | exact this) Rz.out); have qA : RD.block ≠ qZ := Nat.ne_of_lt (Nat.lt_of_lt_of_le (by have := World.block_lt_of_cell? _ _ og; first | rwa [add_block] at this | exact this) Rz.out); have qB : RD.block ≠ qZ := Nat.ne_of_lt (Nat.lt_of_lt_of_le (by have := World.block_lt_of_cell? _ _ og; first | rwa [add_block] at this | exact this) Rz.out); replace og := (HB.out.cell (World.block_lt_of_cell? w _ og)).trans og; replace rF := (HB.out.cell (World.block_lt_of_cell? w _ rF)).trans rF; replace rG := (HB.out.cell (World.block_lt_of_cell? w _ rG)).trans rG; have Wn := ak LV; have Wp := ak LU; clear LV LU; have Wq := ak LX; have Ws := ak LW; clear LX LW; have Wu := ak LZ; have Wv := ak LY; clear LZ LY; replace og := (cell_far (p := ⟨qZ, 0, none⟩) (by first | (rw [add_block]; exact qy) | (show (Addr.add _ _).block ≠ _; rw [add_block]; exact qy) | exact qy) (.slice xX ((aN l0 iZ).f0).length xY)).trans og; replace rF := (cell_far (p := ⟨qZ, 0, none⟩) (by first | (rw [add_block]; exact qy) | (show (Addr.add _ _).block ≠ _; rw [add_block]; exact qy) | exact qy) (.slice xX ((aN l0 iZ).f0).length xY)).trans rF; replace rG := (cell_far (p := ⟨qZ, 0, none⟩) (by first | (rw [add_block]; exact qy) | (show (Addr.add _ _).block ≠ _; rw [add_block]; exact qy) | exact qy) (.slice xX ((aN l0 iZ).f0).length xY)).trans rG; replace og := (cell_far (p := ⟨qZ, 1, none⟩) (by first | (rw [add_block]; exact qA) | (show (Addr.add _ _).block ≠ _; rw [add_block]; exact qA) | exact qA) (.slice xZ ((aN l0 iZ).f1).length yc)).trans og; replace rF := (cell_far (p := ⟨qZ, 1, none⟩) (by first | (rw [add_block]; exact qA) | (show (Addr.add _ _).block ≠ _; rw [add_block]; exact qA) | exact qA) (.slice xZ ((aN l0 iZ).f1).length yc)).trans rF; replace rG := (cell_far (p := ⟨qZ, 1, none⟩) (by first | (rw [add_block]; exact qA) | (show (Addr.add _ _).block ≠ _; rw [add_block]; exact qA) | exact qA) (.slice xZ ((aN l0 iZ).f1).length yc)).trans rG; replace og := (cell_far (p := ⟨qZ, 2, none⟩) (by first | (rw [add_block]; exact qB) | (show (Addr.add _ _).block ≠ _; rw [add_block]; exact qB) | exact qB) (.slice yg ((aN l0 iZ).f2).length yh)).trans og; replace rF := (cell_far (p := ⟨qZ, 2, none⟩) (by first | (rw [add_block]; exact qB) | (show (Addr.add _ _).block ≠ _; rw [add_block]; exact qB) | exact qB) (.slice yg ((aN l0 iZ).f2).length yh)).trans rF; replace rG := (cell_far (p := ⟨qZ, 2, none⟩) (by first | (rw [add_block]; exact qB) | (show (Addr.add _ _).block ≠ _; rw [add_block]; exact qB) | exact qB) (.slice yg ((aN l0 iZ).f2).length yh)).trans rG; clear qy; clear qA; clear qB; replace ZL := eq_true ZL; replace ZM := eq_true ZM) | (refine bY HB 9 #[.slice none 0 0, .slice none 0 0, .slice none 0 0] 28 ?_; intro Yb w13 RF avP hg hb; have N_ := ak ((by rw [hg]; exact Nat.ne_of_lt (vM (g := qZ) (o := .cells #[.slice xX ((aN l0 iZ).f0).length xY, .slice xZ ((aN l0 iZ).f1).length yc, .slice yg ((aN l0 iZ).f2).length yh] 28 (0, 0)) bq) : qZ ≠ Yb)); have Oa := ak ((by rw [hg]; exact Nat.ne_of_gt (vM (g := qZ) (o := .cells #[.slice xX ((aN l0 iZ).f0).length xY, .slice xZ ((aN l0 iZ).f1).length yc, .slice yg ((aN l0 iZ).f2).length yh] 28 (0, 0)) bq) : Yb ≠ qZ)); replace Ed := kp Ed #[.slice xX ((aN l0 iZ).f0).length xY, .slice xZ ((aN l0 iZ).f1).length yc, .slice yg ((aN l0 iZ).f2).length yh] hb; replace HB := bz HB hb; clear hb hg; have aDS := Oa.out; have aDT := N_.out; have OH := ku RF.out; have z16 := ku Ed.out) | (go_at_call 21; refine mB ((ih k1 (by have := yB.out; omega)).1 _ _ ((aN l0 iZ).f0) _ _ ((aN l0 iZ).f1) _ _ ((aN l0 iZ).f2) _ _ ((aN l1 iZ).f0) _ _ ((aN l1 iZ).f1) _ _ ((aN l1 iZ).f2) true _ (Kd.aW V8.out bb) V9.out (Kd.aW V_.out bb) Wh.out (Kd.aW Wi.out bb) Wj.out (Kd.aW Wn.out bb) Wp.out (Kd.aW Wq.out bb) Ws.out (Kd.aW Wu.out bb) Wv.out A9.out) ?_; intro w17 hb; replace Ed := kp Ed #[.slice xX ((aN l0 iZ).f0).length xY, .slice xZ ((aN l0 iZ).f1).length yc, .slice yg ((aN l0 iZ).f2).length yh] hb; replace RF := kp RF #[.slice ZN ((aN l1 iZ).f0).length ZO, .slice ZP ((aN l1 iZ).f1).length ZQ, .slice ZR ((aN l1 iZ).f2).length ZT] hb; replace HB := bz HB hb; clear hb))
       go_roundg k1
       case measure => exact kl
       case rel => exact ⟨_, rs, H', ⟨kl⟩, ⟨bb⟩⟩
      ·
       obtain rfl := s1 H
       have ZJ := zi iZ
       have ZK := zj iZ l0.length
       obtain ⟨avO, xX, xY, xZ, yc, yg, yh, aoU, LC, LD, LG, LH, LJ, LK, LM, LP, LQ⟩ := zD HR0.out iZ ZJ ZK
       cases aoU
       replace LC := cl HB.out LC
       replace LD := cl HB.out LD
       replace LG := cl HB.out LG
       have V8 := ak LJ
       have V9 := ak LH
       clear LJ LH
       have V_ := ak LM
       have Wh := ak LK
       clear LM LK
       have Wi := ak LQ
       have Wj := ak LP
       clear LQ LP
       replace ZJ := eq_true ZJ
       replace ZK := eq_true ZK
       go_wp2_with (first | (refine bX HB 8 #[.slice none 0 0, .slice none 0 0, .slice none 0 0] 28 ?_; intro qZ w18 Ed Rz hb; replace HB := bs HB hb; clear hb; have z19 := ku Ed.out; have ZL : 0 ≤ (iZ : Int) := of_decide_eq_true (by assumption); have ZM : iZ < (l1.length : Int) := of_decide_eq_true (by assumption); obtain ⟨RD, ZN, ZO, ZP, ZQ, ZR, ZT, aoV, og, rF, rG, LU, LV, LW, LX, LY, LZ⟩ := zD HR1.out iZ ZL ZM; cases aoV; have qy : RD.block ≠ qZ := Nat.ne_of_lt (Nat.lt_of_lt_of_le (by have := World.block_lt_of_cell? _ _ og; first | rwa [add_block] at this | exact this) Rz.out); have qA : RD.block ≠ qZ := Nat.ne_of_lt (Nat.lt_of_lt_of_le (by have := World.block_lt_of_cell? _ _ og; first | rwa [add_block] at this | exact this) Rz.out); have qB : RD.block ≠ qZ := Nat.ne_of_lt (Nat.lt_of_lt_of_le (by have := World.block_lt_of_cell? _ _ og; first | rwa [add_block] at this | exact this) Rz.out); replace og := (HB.out.cell (World.block_lt_of_cell? w _ og)).trans og; replace rF := (HB.out.cell (World.block_lt_of_cell? w _ rF)).trans rF; replace rG := (HB.out.cell (World.block_lt_of_cell? w _ rG)).trans rG; have Wn := ak LV; have Wp := ak LU; clear LV LU; have Wq := ak LX; have Ws := ak LW; clear LX LW; have Wu := ak LZ; have Wv := ak LY; clear LZ LY; replace og := (cell_far (p := ⟨qZ, 0, none⟩) (by first | (rw [add_block]; exact qy) | (show (Addr.add _ _).block ≠ _; rw [add_block]; exact qy) | exact qy) (.slice xX ((aN l0 iZ).f0).length xY)).trans og; replace rF := (cell_far (p := ⟨qZ, 0, none⟩) (by first | (rw [add_block]; exact qy) | (show (Addr.add _ _).block ≠ _; rw [add_block]; exact qy) | exact qy) (.slice xX ((aN l0 iZ).f0).length xY)).trans rF; replace rG := (cell_far (p := ⟨qZ, 0, none⟩) (by first | (rw [add_block]; exact qy) | (show (Addr.add _ _).block ≠ _; rw [add_block]; exact qy) | exact qy) (.slice xX ((aN l0 iZ).f0).length xY)).trans rG; replace og := (cell_far (p := ⟨qZ, 1, none⟩) (by first | (rw [add_block]; exact qA) | (show (Addr.add _ _).block ≠ _; rw [add_block]; exact qA) | exact qA) (.slice xZ ((aN l0 iZ).f1).length yc)).trans og; replace rF := (cell_far (p := ⟨qZ, 1, none⟩) (by first | (rw [add_block]; exact qA) | (show (Addr.add _ _).block ≠ _; rw [add_block]; exact qA) | exact qA) (.slice xZ ((aN l0 iZ).f1).length yc)).trans rF; replace rG := (cell_far (p := ⟨qZ, 1, none⟩) (by first | (rw [add_block]; exact qA) | (show (Addr.add _ _).block ≠ _; rw [add_block]; exact qA) | exact qA) (.slice xZ ((aN l0 iZ).f1).length yc)).trans rG; replace og := (cell_far (p := ⟨qZ, 2, none⟩) (by first | (rw [add_block]; exact qB) | (show (Addr.add _ _).block ≠ _; rw [add_block]; exact qB) | exact qB) (.slice yg ((aN l0 iZ).f2).length yh)).trans og; replace rF := (cell_far (p := ⟨qZ, 2, none⟩) (by first | (rw [add_block]; exact qB) | (show (Addr.add _ _).block ≠ _; rw [add_block]; exact qB) | exact qB) (.slice yg ((aN l0 iZ).f2).length yh)).trans rF; replace rG := (cell_far (p := ⟨qZ, 2, none⟩) (by first | (rw [add_block]; exact qB) | (show (Addr.add _ _).block ≠ _; rw [add_block]; exact qB) | exact qB) (.slice yg ((aN l0 iZ).f2).length yh)).trans rG; clear qy; clear qA; clear qB; replace ZL := eq_true ZL; replace ZM := eq_true ZM) | (refine bY HB 9 #[.slice none 0 0, .slice none 0 0, .slice none 0 0] 28 ?_; intro Yb w20 RF avP hg hb; have N_ := ak ((by rw [hg]; exact Nat.ne_of_lt (vM (g := qZ) (o := .cells #[.slice xX ((aN l0 iZ).f0).length xY, .slice xZ ((aN l0 iZ).f1).length yc, .slice yg ((aN l0 iZ).f2).length yh] 28 (0, 0)) bq) : qZ ≠ Yb)); have Oa := ak ((by rw [hg]; exact Nat.ne_of_gt (vM (g := qZ) (o := .cells #[.slice xX ((aN l0 iZ).f0).length xY, .slice xZ ((aN l0 iZ).f1).length yc, .slice yg ((aN l0 iZ).f2).length yh] 28 (0, 0)) bq) : Yb ≠ qZ)); replace Ed := kp Ed #[.slice xX ((aN l0 iZ).f0).length xY, .slice xZ ((aN l0 iZ).f1).length yc, .slice yg ((aN l0 iZ).f2).length yh] hb; replace HB := bz HB hb; clear hb hg; have avM := Oa.out; have avN := N_.out; have z22 := ku RF.out; have z23 := ku Ed.out) | (go_at_call 21; refine mB ((ih k1 (by have := yB.out; omega)).1 _ _ ((aN l0 iZ).f0) _ _ ((aN l0 iZ).f1) _ _ ((aN l0 iZ).f2) _ _ ((aN l1 iZ).f0) _ _ ((aN l1 iZ).f1) _ _ ((aN l1 iZ).f2) false _ (Kd.aW V8.out bb) V9.out (Kd.aW V_.out bb) Wh.out (Kd.aW Wi.out bb) Wj.out (Kd.aW Wn.out bb) Wp.out (Kd.aW Wq.out bb) Ws.out (Kd.aW Wu.out bb) Wv.out A9.out) ?_; intro w24 hb; replace Ed := kp Ed #[.slice xX ((aN l0 iZ).f0).length xY, .slice xZ ((aN l0 iZ).f1).length yc, .slice yg ((aN l0 iZ).f2).length yh] hb; replace RF := kp RF #[.slice ZN ((aN l1 iZ).f0).length ZO, .slice ZP ((aN l1 iZ).f1).length ZQ, .slice ZR ((aN l1 iZ).f2).length ZT] hb; replace HB := bz HB hb; clear hb))
       go_ret
       exact ⟨er, bb⟩
     ·
      obtain rfl := s1 H
      go_wp2
      go_ret
      exact ⟨er, ul HB.out⟩
  ·
   have rC := beq_eq_false_iff_ne.mpr c4
   have Td := bne_iff_ne.mpr c4
   have aeE : (l0.length == l1.length) = false := by first | simpa using c4 | (simp at c4 ⊢; omega)
   obtain rfl := s1 H
   go_enter Tryz.func64, Tryz.ntmps64
   go_wp2
   go_ret
   exact ⟨er, ul HB.out⟩
theorem jo.calls {k jm jk fM vN vO vP : Nat} {jl ji iC vS vC vT : Option Addr} {dG pz : List (gK)} {cO oV : List ByteArray} {aC oM : List (mV)} {r : Bool} {w : World} (mW : Kd.C pU w jl dG.length dG) (mX : dG.length ≤ jm) (mY : Kd.C Kd.string w ji cO.length cO) (mZ : cO.length ≤ jk) (jY : Kd.C k28 w iC aC.length aC) (jZ : aC.length ≤ fM) (La : Kd.C pU w vS pz.length pz) (Lc : pz.length ≤ vN) (Ld : Kd.C Kd.string w vC oV.length oV) (Le : oV.length ≤ vO) (Lh : Kd.C k28 w vT oM.length oM) (Lj : oM.length ≤ vP) (h : jo.f k dG cO aC pz oV oM = some r) :
  Calls Tryz.prog 21 #[.agg #[.slice jl dG.length jm, .slice ji cO.length jk, .slice iC aC.length fM], .agg #[.slice vS pz.length vN, .slice vC oV.length vO, .slice vT oM.length vP]] w fun e w' => e = .returned (.bool r) ∧ Below w.heap.size w w' := (jo.pair k).1 jl jm dG ji jk cO iC fM aC vS vN pz vC vO oV vT vP oM r w mW mX mY mZ jY jZ La Lc Ld Le Lh Lj h
theorem gU.calls {k c0 c1 : Nat} {A0 A1 : Option Addr} {l0 l1 : List (mV)} {r : Bool} {w : World} (hr0 : Kd.C k28 w A0 l0.length l0) (hc0 : l0.length ≤ c0) (hr1 : Kd.C k28 w A1 l1.length l1) (hc1 : l1.length ≤ c1) (h : gU.f k l0 l1 = some r) :
  Calls Tryz.prog 64 #[.slice A0 l0.length c0, .slice A1 l1.length c1, .func (.func 21) #[] #[]] w fun e w' => e = .returned (.bool r) ∧ Below w.heap.size w w' := (jo.pair k).2 A0 c0 l0 A1 c1 l1 r w hr0 hc0 hr1 hc1 h
end Go.Proofs.YtncdadcmghglkaaGreatDoor.PFnPartValid
