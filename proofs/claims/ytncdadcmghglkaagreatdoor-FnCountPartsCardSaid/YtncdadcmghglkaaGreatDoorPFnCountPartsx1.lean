/- Printed walks; conditions: those in each statement. -/
import Derived.Test.YtncdadcmghglkaaGreatDoorVFnCountPartsQt
import Derived.Test.YtncdadcmghglkaaGreatDoorVFnCountPartsYt
import Derived.Test.YtncdadcmghglkaaGreatDoorPFnCountPartsx0
-- short
-- dense
-- sq
-- sq2
namespace Go.Proofs.YtncdadcmghglkaaGreatDoor.PFnCountParts
open Go.RowKit Go.Proofs.YtncdadcmghglkaaGreatDoor.X Go.Proofs.YtncdadcmghglkaaGreatDoorW.bI Go.Proofs.YtncdadcmghglkaaGreatDoorW.gI Go.Proofs.YtncdadcmghglkaaGreatDoorW.iL
attribute [local go_sem] kN kP mF mG jB jC kQ kR   -- for this text's walks alone
set_option linter.unusedVariables false
set_option maxHeartbeats 8000000
set_option maxRecDepth 100000
set_option linter.unusedSimpArgs false
def bC.l0 : Nat → ByteArray → Int → Int → Option (Bool)
 | 0, _, _, _ => none
 | k + 1, x0, x5, x6 => if x6 < x5 then (if 0 ≤ x6 then (if x6 < (x0.size : Int) then (if (bt x0 x6) < 32 then (some false) else (if (bt x0 x6) > 126 then (some false) else (bC.l0 k x0 x5 (wrap64 (x6 + 1))))) else (none)) else (none)) else (some (decide ((x0.size : Int) ≤ 200)))
def bC.f (k : Nat) (a0 : ByteArray) : Option (Bool) := bC.l0 k a0 (a0.size : Int) 0
theorem bC.calls {k : Nat} {a0 : ByteArray} {r : Bool} {w : World} (h : bC.f k a0 = some r) :
  Calls Tryz.prog 89 #[.string a0] w fun e w' => e = .returned (.bool r) ∧ dS w w' := by
 unfold bC.f at h; have H := h
 clear h
 have H' := ak H; clear H
 go_enter Tryz.func89, Tryz.ntmps89
 go_wp2
 go_loopg [6] k (fun kq v6 w' => ∃ (jH : Int), v6 = .int .i64 jH ∧ ah (bC.l0 kq a0 (a0.size : Int) jH = some r) ∧ ah (kq ≤ k) ∧ dS w w')
 case atStart => exact ⟨_, rs, H', ⟨Nat.le_refl _⟩, dn⟩
 case round =>
  clear H'
  obtain ⟨jH, rfl, HA, xu, ⟨m1, rfl⟩⟩ := hrel
  cases gk with
  | zero => exact zz HA.out
  | succ k1 =>
   obtain ⟨H⟩ := HA
   simp only [bC.l0] at H
   replace H := sd H
   rcases H with ⟨oI, H⟩ | ⟨oI, H⟩
   ·
    replace H := oM H; obtain ⟨iQ, H⟩ := H; replace H := oM H; obtain ⟨rX, H⟩ := H; replace H := sd H
    rcases H with ⟨nT, H⟩ | ⟨nT, H⟩
    ·
     obtain rfl := s1 H
     obtain ⟨p5, q5, hx5⟩ := bx a0 jH
     go_wp2
     go_ret
     exact ⟨rs, dn⟩
    ·
     replace H := sp H
     rcases H with ⟨c8, H⟩ | ⟨c8, H⟩
     ·
      have sH : decide (126 < (bt a0 jH)) = true := decide_eq_true c8
      clear c8
      obtain rfl := s1 H
      obtain ⟨p5, q5, hx5⟩ := bx a0 jH
      obtain ⟨p7, q7, hx7⟩ := bx a0 jH
      go_wp2
      go_ret
      exact ⟨rs, dn⟩
     ·
      have sH : decide (126 < (bt a0 jH)) = false := decide_eq_false c8
      clear c8
      have H' := ak H; clear H
      obtain ⟨p5, q5, hx5⟩ := bx a0 jH
      obtain ⟨p7, q7, hx7⟩ := bx a0 jH
      go_wp2
      go_roundg k1
      case measure => exact kl
      case rel => exact ⟨_, rs, H', ⟨kl⟩, dn⟩
   ·
    obtain rfl := s1 H
    go_wp2
    go_ret
    exact ⟨rs, dn⟩
def kV.f (a0 : ByteArray) (a1 : ByteArray) : Option (ByteArray) := if a1.data.toList = [32] then (if a0.size ≤ 9223372036854775807 then some ⟨(Lib.trimB a0.data.toList 32).toArray⟩ else none) else none
theorem kV.calls {a0 a1 r : ByteArray} {w : World} (h : kV.f a0 a1 = some r) :
  Calls Tryz.prog 92 #[.string a0, .string a1] w fun e w' => e = .returned (.string r) ∧ dS w w' := by
 unfold kV.f at h
 split at h
 ·
  rename_i h1
  split at h
  ·
   rename_i hs
   injection h with h
   subst h
   have e1 : a1 = ⟨#[32]⟩ := by
    cases a1 with
    | mk d => exact congrArg ByteArray.mk (Array.toList_inj.mp h1)
   subst e1
   refine (Tryz.strings_Trim_one a0 32 (by decide) w hs).mono ?_
   rintro e w' ⟨he, hw⟩
   refine ⟨he, ?_⟩
   rcases hw with rfl | rfl
   ·
    exact ⟨⟨0, rfl⟩⟩
   ·
    exact ⟨⟨1, rfl⟩⟩
  ·
   cases h
 ·
  cases h
def bH.f (a0 : Int) : Option (Bool) := if a0 ≥ 97 then (if a0 ≤ 122 then (some true) else (if a0 ≥ 65 then (some (decide (a0 ≤ 90))) else (some false))) else (if a0 ≥ 65 then (some (decide (a0 ≤ 90))) else (some false))
theorem bH.calls {a0 : Int} {r : Bool} {w : World} (h : bH.f a0 = some r) :
  Calls Tryz.prog 140 #[.int .u8 a0] w fun e w' => e = .returned (.bool r) ∧ dS w w' := by
 unfold bH.f at h; have H := h
 clear h
 replace H := sp H
 rcases H with ⟨c2, H⟩ | ⟨c2, H⟩
 ·
  have oI : decide (97 ≤ a0) = true := decide_eq_true c2
  clear c2
  replace H := sd H
  rcases H with ⟨iQ, H⟩ | ⟨iQ, H⟩
  ·
   obtain rfl := s1 H
   go_enter Tryz.func140, Tryz.ntmps140
   go_wp2
   go_ret
   exact ⟨rs, dn⟩
  ·
   replace H := sp H
   rcases H with ⟨c4, H⟩ | ⟨c4, H⟩
   ·
    have rX : decide (65 ≤ a0) = true := decide_eq_true c4
    clear c4
    obtain rfl := s1 H
    go_enter Tryz.func140, Tryz.ntmps140
    go_wp2
    go_ret
    exact ⟨rs, dn⟩
   ·
    have rX : decide (65 ≤ a0) = false := decide_eq_false c4
    clear c4
    obtain rfl := s1 H
    go_enter Tryz.func140, Tryz.ntmps140
    go_wp2
    go_ret
    exact ⟨rs, dn⟩
 ·
  have oI : decide (97 ≤ a0) = false := decide_eq_false c2
  clear c2
  replace H := sp H
  rcases H with ⟨c5, H⟩ | ⟨c5, H⟩
  ·
   have nR : decide (65 ≤ a0) = true := decide_eq_true c5
   clear c5
   obtain rfl := s1 H
   go_enter Tryz.func140, Tryz.ntmps140
   go_wp2
   go_ret
   exact ⟨rs, dn⟩
  ·
   have nR : decide (65 ≤ a0) = false := decide_eq_false c5
   clear c5
   obtain rfl := s1 H
   go_enter Tryz.func140, Tryz.ntmps140
   go_wp2
   go_ret
   exact ⟨rs, dn⟩
def dH.f (a0 : Int) : Option (Bool) := if a0 ≥ 48 then (some (decide (a0 ≤ 57))) else (some false)
theorem dH.calls {a0 : Int} {r : Bool} {w : World} (h : dH.f a0 = some r) :
  Calls Tryz.prog 141 #[.int .u8 a0] w fun e w' => e = .returned (.bool r) ∧ dS w w' := by
 unfold dH.f at h; have H := h
 clear h
 replace H := sp H
 rcases H with ⟨c2, H⟩ | ⟨c2, H⟩
 ·
  have oI : decide (48 ≤ a0) = true := decide_eq_true c2
  clear c2
  obtain rfl := s1 H
  go_enter Tryz.func141, Tryz.ntmps141
  go_wp2
  go_ret
  exact ⟨rs, dn⟩
 ·
  have oI : decide (48 ≤ a0) = false := decide_eq_false c2
  clear c2
  obtain rfl := s1 H
  go_enter Tryz.func141, Tryz.ntmps141
  go_wp2
  go_ret
  exact ⟨rs, dn⟩
def qB.f (a0 : Int) : Option (Bool) := (bH.f a0).bind fun aoi => (if aoi = true then (some true) else ((dH.f a0).bind fun aoj => (if aoj = true then (some true) else (some (a0 == 45)))))
theorem qB.calls {a0 : Int} {r : Bool} {w : World} (h : qB.f a0 = some r) :
  Calls Tryz.prog 185 #[.int .u8 a0] w fun e w' => e = .returned (.bool r) ∧ dS w w' := by
 unfold qB.f at h; have H := h
 clear h
 replace H := bd H; obtain ⟨aoi, A2, H⟩ := H; replace H := sb H
 rcases H with ⟨rfl, H⟩ | ⟨rfl, H⟩
 ·
  obtain rfl := s1 H
  go_enter Tryz.func185, Tryz.ntmps185
  go_wp2_with (refine gA Tryz.func140 (bH.calls A2.out) ?_; intro nd)
  go_ret
  exact ⟨rs, dn⟩
 ·
  replace H := bd H; obtain ⟨aoj, A4, H⟩ := H; replace H := sb H
  rcases H with ⟨rfl, H⟩ | ⟨rfl, H⟩
  ·
   obtain rfl := s1 H
   go_enter Tryz.func185, Tryz.ntmps185
   go_wp2_with (first | (refine gA Tryz.func140 (bH.calls A2.out) ?_; intro nd) | (go_at_call 141; refine mA (dH.calls A4.out) ?_; intro nd))
   go_ret
   exact ⟨rs, dn⟩
  ·
   obtain rfl := s1 H
   go_enter Tryz.func185, Tryz.ntmps185
   go_wp2_with (first | (refine gA Tryz.func140 (bH.calls A2.out) ?_; intro nd) | (go_at_call 141; refine mA (dH.calls A4.out) ?_; intro nd))
   go_ret
   exact ⟨rs, dn⟩
def eu.l0 : Nat → ByteArray → Int → Int → Option (Bool)
 | 0, _, _, _ => none
 | k + 1, x0, x7, x8 => if x8 < x7 then (if 0 ≤ x8 then (if x8 < (x0.size : Int) then ((qB.f (bt x0 x8)).bind fun aok => (if aok = true then (eu.l0 k x0 x7 (wrap64 (x8 + 1))) else (some false))) else (none)) else (none)) else (some true)
def eu.f (k : Nat) (a0 : ByteArray)  : Option (Bool) := eu.l0 k a0 (a0.size : Int) 0
theorem eu.calls {k : Nat} {a0 : ByteArray} {r : Bool} {w : World} (h : eu.f k a0 = some r) :
  Calls Tryz.prog 138 #[.string a0, .func (.func 185) #[] #[]] w fun e w' => e = .returned (.bool r) ∧ dS w w' := by
 unfold eu.f at h; have H := h
 clear h
 have H' := ak H; clear H
 go_enter Tryz.func138, Tryz.ntmps138
 go_wp2
 go_loopg [8] k (fun kq v8 w' => ∃ (kY : Int), v8 = .int .i64 kY ∧ ah (eu.l0 kq a0 (a0.size : Int) kY = some r) ∧ ah (kq ≤ k) ∧ dS w w')
 case atStart => exact ⟨_, rs, H', ⟨Nat.le_refl _⟩, dn⟩
 case round =>
  clear H'
  obtain ⟨kY, rfl, HA, xu, ⟨m1, rfl⟩⟩ := hrel
  cases gk with
  | zero => exact zz HA.out
  | succ k1 =>
   obtain ⟨H⟩ := HA
   simp only [eu.l0] at H
   replace H := sd H
   rcases H with ⟨iQ, H⟩ | ⟨iQ, H⟩
   ·
    replace H := oM H; obtain ⟨rX, H⟩ := H; replace H := oM H; obtain ⟨nR, H⟩ := H; replace H := bd H; obtain ⟨aok, A7, H⟩ := H; replace H := sb H
    rcases H with ⟨rfl, H⟩ | ⟨rfl, H⟩
    ·
     have H' := ak H; clear H
     obtain ⟨p6, q6, hx6⟩ := bx a0 kY
     go_wp2_with (go_at_call 185; refine mA (qB.calls A7.out) ?_; intro nd)
     go_roundg k1
     case measure => exact kl
     case rel => exact ⟨_, rs, H', ⟨kl⟩, dn⟩
    ·
     obtain rfl := s1 H
     obtain ⟨p6, q6, hx6⟩ := bx a0 kY
     go_wp2_with (go_at_call 185; refine mA (qB.calls A7.out) ?_; intro nd)
     go_ret
     exact ⟨rs, dn⟩
   ·
    obtain rfl := s1 H
    go_wp2
    go_ret
    exact ⟨rs, dn⟩
def jr.f (k : Nat) (a0 : ByteArray) : Option (Bool) := if (a0.size : Int) ≥ 1 then (if (a0.size : Int) ≤ 30 then (if 0 < (a0.size : Int) then ((bH.f (bt a0 0)).bind fun agf => (if agf = true then ((eu.f k a0).bind fun t105 => (some t105)) else (some false))) else (none)) else (some false)) else (some false)
theorem jr.calls {k : Nat} {a0 : ByteArray} {r : Bool} {w : World} (h : jr.f k a0 = some r) :
  Calls Tryz.prog 160 #[.string a0] w fun e w' => e = .returned (.bool r) ∧ dS w w' := by
 unfold jr.f at h; have H := h
 clear h
 replace H := sp H
 rcases H with ⟨c2, H⟩ | ⟨c2, H⟩
 ·
  have oI : decide (1 ≤ (a0.size : Int)) = true := decide_eq_true c2
  have uP : decide (1 ≤ a0.size) = true := decide_eq_true (by omega)
  clear c2
  replace H := sp H
  rcases H with ⟨c3, H⟩ | ⟨c3, H⟩
  ·
   have iQ := decide_eq_true c3
   have zZ : decide (a0.size ≤ 30) = true := decide_eq_true (by omega)
   clear c3
   replace H := nn H; obtain ⟨c4, H⟩ := H
   have rX := decide_eq_true c4
   have Xb : decide (0 < a0.size) = true := decide_eq_true (by omega)
   clear c4
   replace H := bd H; obtain ⟨agf, A6, H⟩ := H; replace H := sb H
   rcases H with ⟨rfl, H⟩ | ⟨rfl, H⟩
   ·
    replace H := bd H; obtain ⟨t105, A8, H⟩ := H
    obtain rfl := s1 H
    have p5 : 0 ≤ (0 : Int) := (by omega)
    have q5 : 0 < a0.size := (by have : (0 : Int) < (a0.size : Int) := of_decide_eq_true (by assumption); omega)
    have hx5 : ∀ h : 0 < a0.size, ((a0[0]'h).toNat : Int) = bt a0 0 := vO a0 0
    clear p5
    have qi5 : (0 < (a0.size : Int)) = True := eq_true (of_decide_eq_true (by assumption))
    replace q5 := eq_true q5
    go_enter Tryz.func160, Tryz.ntmps160
    go_wp2_with (first | (go_at_call 140; refine mA (bH.calls A6.out) ?_; intro nd) | (go_at_call 138; refine mA (eu.calls A8.out) ?_; intro nd))
    go_ret
    exact ⟨rs, dn⟩
   ·
    obtain rfl := s1 H
    have p5 : 0 ≤ (0 : Int) := (by omega)
    have q5 : 0 < a0.size := (by have : (0 : Int) < (a0.size : Int) := of_decide_eq_true (by assumption); omega)
    have hx5 : ∀ h : 0 < a0.size, ((a0[0]'h).toNat : Int) = bt a0 0 := vO a0 0
    clear p5
    have qi5 : (0 < (a0.size : Int)) = True := eq_true (of_decide_eq_true (by assumption))
    replace q5 := eq_true q5
    go_enter Tryz.func160, Tryz.ntmps160
    go_wp2_with (go_at_call 140; refine mA (bH.calls A6.out) ?_; intro nd)
    go_ret
    exact ⟨rs, dn⟩
  ·
   have iQ := decide_eq_false c3
   have zZ : decide (a0.size ≤ 30) = false := decide_eq_false (by omega)
   clear c3
   obtain rfl := s1 H
   go_enter Tryz.func160, Tryz.ntmps160
   go_wp2
   go_ret
   exact ⟨rs, dn⟩
 ·
  have oI : decide (1 ≤ (a0.size : Int)) = false := decide_eq_false c2
  have uP : decide (1 ≤ a0.size) = false := decide_eq_false (by omega)
  clear c2
  obtain rfl := s1 H
  go_enter Tryz.func160, Tryz.ntmps160
  go_wp2
  go_ret
  exact ⟨rs, dn⟩
def pV.f (k : Nat) (eF : ByteArray) (eP : ByteArray) : Option (Bool) := (jr.f k eF).bind fun t107 => (if t107 = true then ((bC.f k eP).bind fun aol => (if aol = true then (if (eP.size : Int) ≤ 150 then ((kV.f eP (⟨#[32]⟩ : ByteArray)).bind fun t109 => (some (t109.toList == eP.toList))) else (some false)) else (some false))) else (some false))
theorem pV.calls {k : Nat} {eF eP : ByteArray} {r : Bool} {w : World} (h : pV.f k eF eP = some r) :
  Calls Tryz.prog 120 #[.agg #[.string eF, .string eP]] w fun e w' => e = .returned (.bool r) ∧ Below w.heap.size w w' := by
 have Dt := Tryz.underlying69
 have HB := ak (Below.refl w.heap.size w)
 unfold pV.f at h; have H := h
 clear h
 replace H := bd H; obtain ⟨t107, A2, H⟩ := H; replace H := sb H
 rcases H with ⟨rfl, H⟩ | ⟨rfl, H⟩
 ·
  replace H := bd H; obtain ⟨aol, A4, H⟩ := H; replace H := sb H
  rcases H with ⟨rfl, H⟩ | ⟨rfl, H⟩
  ·
   replace H := sp H
   rcases H with ⟨c6, H⟩ | ⟨c6, H⟩
   ·
    have nT := decide_eq_true c6
    have wF : decide (eP.size ≤ 150) = true := decide_eq_true (by omega)
    clear c6
    replace H := bd H; obtain ⟨t109, A7, H⟩ := H
    obtain rfl := s1 H
    go_enter Tryz.func120, Tryz.ntmps120
    go_wp2_with (first | (refine gG 1 ?_; refine bX HB 1 #[.string eF, .string eP] 69 ?_; intro EM w8 uQ EN hb; replace HB := bs HB hb; clear hb; have z9 := zx uQ.out) | (go_at_call 160; refine mA (jr.calls A2.out) ?_; intro nd; (try exact dq)) | (go_at_call 89; refine mA (bC.calls A4.out) ?_; intro nd; (try exact dq)) | (go_at_call 92; refine mA (kV.calls A7.out) ?_; intro nd; (try exact dq)))
    repeat (go_quiet (first | (refine gG 1 ?_; refine bX HB 1 #[.string eF, .string eP] 69 ?_; intro EM w8 uQ EN hb; replace HB := bs HB hb; clear hb; have z9 := zx uQ.out) | (go_at_call 160; refine mA (jr.calls A2.out) ?_; intro nd; (try exact dq)) | (go_at_call 89; refine mA (bC.calls A4.out) ?_; intro nd; (try exact dq)) | (go_at_call 92; refine mA (kV.calls A7.out) ?_; intro nd; (try exact dq))); try go_wp2_with (first | (refine gG 1 ?_; refine bX HB 1 #[.string eF, .string eP] 69 ?_; intro EM w8 uQ EN hb; replace HB := bs HB hb; clear hb; have z9 := zx uQ.out) | (go_at_call 160; refine mA (jr.calls A2.out) ?_; intro nd; (try exact dq)) | (go_at_call 89; refine mA (bC.calls A4.out) ?_; intro nd; (try exact dq)) | (go_at_call 92; refine mA (kV.calls A7.out) ?_; intro nd; (try exact dq))))
    go_ret
    exact ⟨er, bb⟩
   ·
    have nT := decide_eq_false c6
    have wF : decide (eP.size ≤ 150) = false := decide_eq_false (by omega)
    clear c6
    obtain rfl := s1 H
    go_enter Tryz.func120, Tryz.ntmps120
    go_wp2_with (first | (refine gG 1 ?_; refine bX HB 1 #[.string eF, .string eP] 69 ?_; intro EM w10 uQ EN hb; replace HB := bs HB hb; clear hb; have z11 := zx uQ.out) | (go_at_call 160; refine mA (jr.calls A2.out) ?_; intro nd; (try exact dq)) | (go_at_call 89; refine mA (bC.calls A4.out) ?_; intro nd; (try exact dq)))
    repeat (go_quiet (first | (refine gG 1 ?_; refine bX HB 1 #[.string eF, .string eP] 69 ?_; intro EM w10 uQ EN hb; replace HB := bs HB hb; clear hb; have z11 := zx uQ.out) | (go_at_call 160; refine mA (jr.calls A2.out) ?_; intro nd; (try exact dq)) | (go_at_call 89; refine mA (bC.calls A4.out) ?_; intro nd; (try exact dq))); try go_wp2_with (first | (refine gG 1 ?_; refine bX HB 1 #[.string eF, .string eP] 69 ?_; intro EM w10 uQ EN hb; replace HB := bs HB hb; clear hb; have z11 := zx uQ.out) | (go_at_call 160; refine mA (jr.calls A2.out) ?_; intro nd; (try exact dq)) | (go_at_call 89; refine mA (bC.calls A4.out) ?_; intro nd; (try exact dq))))
    go_ret
    exact ⟨er, bb⟩
  ·
   obtain rfl := s1 H
   go_enter Tryz.func120, Tryz.ntmps120
   go_wp2_with (first | (refine gG 1 ?_; refine bX HB 1 #[.string eF, .string eP] 69 ?_; intro EM w12 uQ EN hb; replace HB := bs HB hb; clear hb; have z13 := zx uQ.out) | (go_at_call 160; refine mA (jr.calls A2.out) ?_; intro nd; (try exact dq)) | (go_at_call 89; refine mA (bC.calls A4.out) ?_; intro nd; (try exact dq)))
   repeat (go_quiet (first | (refine gG 1 ?_; refine bX HB 1 #[.string eF, .string eP] 69 ?_; intro EM w12 uQ EN hb; replace HB := bs HB hb; clear hb; have z13 := zx uQ.out) | (go_at_call 160; refine mA (jr.calls A2.out) ?_; intro nd; (try exact dq)) | (go_at_call 89; refine mA (bC.calls A4.out) ?_; intro nd; (try exact dq))); try go_wp2_with (first | (refine gG 1 ?_; refine bX HB 1 #[.string eF, .string eP] 69 ?_; intro EM w12 uQ EN hb; replace HB := bs HB hb; clear hb; have z13 := zx uQ.out) | (go_at_call 160; refine mA (jr.calls A2.out) ?_; intro nd; (try exact dq)) | (go_at_call 89; refine mA (bC.calls A4.out) ?_; intro nd; (try exact dq))))
   go_ret
   exact ⟨er, bb⟩
 ·
  obtain rfl := s1 H
  go_enter Tryz.func120, Tryz.ntmps120
  go_wp2_with (first | (refine gG 1 ?_; refine bX HB 1 #[.string eF, .string eP] 69 ?_; intro EM Q8 uQ EN hb; replace HB := bs HB hb; clear hb; have z15 := zx uQ.out) | (go_at_call 160; refine mA (jr.calls A2.out) ?_; intro nd; (try exact dq)))
  repeat (go_quiet (first | (refine gG 1 ?_; refine bX HB 1 #[.string eF, .string eP] 69 ?_; intro EM Q8 uQ EN hb; replace HB := bs HB hb; clear hb; have z15 := zx uQ.out) | (go_at_call 160; refine mA (jr.calls A2.out) ?_; intro nd; (try exact dq))); try go_wp2_with (first | (refine gG 1 ?_; refine bX HB 1 #[.string eF, .string eP] 69 ?_; intro EM Q8 uQ EN hb; replace HB := bs HB hb; clear hb; have z15 := zx uQ.out) | (go_at_call 160; refine mA (jr.calls A2.out) ?_; intro nd; (try exact dq))))
  go_ret
  exact ⟨er, bb⟩
def nI.f (k : Nat) (eF : ByteArray) (eP : ByteArray) : Option (Bool) := (pV.f k eF eP).bind fun aom => (some (!aom))
theorem nI.calls {k : Nat} {eF eP : ByteArray} {r : Bool} {w : World} (h : nI.f k eF eP = some r) :
  Calls Tryz.prog 119 #[.agg #[.string eF, .string eP]] w fun e w' => e = .returned (.bool r) ∧ Below w.heap.size w w' := by
 have Dt := Tryz.underlying69
 have HB := ak (Below.refl w.heap.size w)
 unfold nI.f at h; have H := h
 clear h
 replace H := bd H; obtain ⟨aom, A2, H⟩ := H
 obtain rfl := s1 H
 go_enter Tryz.func119, Tryz.ntmps119
 go_wp2_with (first | (refine bX HB 1 #[.string eF, .string eP] 69 ?_; intro aAd w3 acO aAe hb; replace HB := bs HB hb; clear hb; have z4 := zx acO.out) | (refine gB Tryz.func120 (pV.calls A2.out) ?_; intro w5 hb; replace acO := kb acO hb; replace HB := bz HB hb; clear hb))
 go_ret
 exact ⟨er, bb⟩
def bW.l0 : Nat → List (gY) → Int → Int → Option (Int)
 | 0, _, _, _ => none
 | k + 1, x0, x7, x8 => if x8 < x7 then (if 0 ≤ x8 then (if x8 < (x0.length : Int) then ((nI.f k ((fD x0 x8).f0) ((fD x0 x8).f1)).bind fun aon => (if aon = true then (some x8) else (bW.l0 k x0 x7 (wrap64 (x8 + 1))))) else (none)) else (none)) else (some (-1))
def bW.f (k : Nat) (l0 : List (gY))  : Option (Int) := bW.l0 k l0 (l0.length : Int) 0
theorem bW.calls {k c0 : Nat} {A0 : Option Addr} {l0 : List (gY)} {r : Int} {w : World} (hr0 : Kd.C qJ w A0 l0.length l0) (hc0 : l0.length ≤ c0) (h : bW.f k l0 = some r) :
  Calls Tryz.prog 122 #[.slice A0 l0.length c0, .func (.func 119) #[] #[]] w fun e w' => e = .returned (.int .i64 r) ∧ Below w.heap.size w w' := by
 have Dt := Tryz.underlying69
 have HR0 := ak hr0
 have xq := ak hc0
 clear hr0 hc0
 have HB := ak (Below.refl w.heap.size w)
 unfold bW.f at h; have H := h
 clear h
 have H' := ak H; clear H
 go_enter Tryz.func122, Tryz.ntmps122
 go_wp2
 go_loopg [8] k (fun kq v8 w' => ∃ (kY : Int), v8 = .int .i64 kY ∧ ah (bW.l0 kq l0 (l0.length : Int) kY = some r) ∧ ah (kq ≤ k) ∧ ah (Below w.heap.size w w'))
 case atStart => exact ⟨_, rs, H', ⟨Nat.le_refl _⟩, ⟨ul HB.out⟩⟩
 case round =>
  clear H'
  obtain ⟨kY, rfl, HA, xu, HB⟩ := hrel
  cases gk with
  | zero => exact zz HA.out
  | succ k1 =>
   obtain ⟨H⟩ := HA
   simp only [bW.l0] at H
   replace H := sd H
   rcases H with ⟨iQ, H⟩ | ⟨iQ, H⟩
   ·
    replace H := oM H; obtain ⟨rX, H⟩ := H; replace H := oM H; obtain ⟨nR, H⟩ := H; replace H := bd H; obtain ⟨aon, A6, H⟩ := H; replace H := sb H
    rcases H with ⟨rfl, H⟩ | ⟨rfl, H⟩
    ·
     obtain rfl := s1 H
     have Xc := zi kY
     have Xd := zj kY l0.length
     obtain ⟨aoo, als, IJ, IK⟩ := qV HR0.out kY Xc Xd
     cases als
     replace IJ := cl HB.out IJ
     replace IK := cl HB.out IK
     replace Xc := eq_true Xc
     replace Xd := eq_true Xd
     go_wp2_with (go_at_call 119; refine mB (nI.calls A6.out) ?_; intro w8 hb; replace HB := bs HB hb; clear hb)
     go_ret
     exact ⟨er, ul HB.out⟩
    ·
     have H' := ak H; clear H
     have Xc := zi kY
     have Xd := zj kY l0.length
     obtain ⟨aoo, als, IJ, IK⟩ := qV HR0.out kY Xc Xd
     cases als
     replace IJ := cl HB.out IJ
     replace IK := cl HB.out IK
     replace Xc := eq_true Xc
     replace Xd := eq_true Xd
     go_wp2_with (go_at_call 119; refine mB (nI.calls A6.out) ?_; intro w9 hb; replace HB := bs HB hb; clear hb)
     go_roundg k1
     case measure => exact kl
     case rel => exact ⟨_, rs, H', ⟨kl⟩, ⟨ul HB.out⟩⟩
   ·
    obtain rfl := s1 H
    go_wp2
    go_ret
    exact ⟨er, ul HB.out⟩
def jL.f (k : Nat) (l0 : List (gY))  : Option (Bool) := (bW.f k l0).bind fun aop => (some (decide (aop ≥ 0)))
theorem jL.calls {k c0 : Nat} {A0 : Option Addr} {l0 : List (gY)} {r : Bool} {w : World} (hr0 : Kd.C qJ w A0 l0.length l0) (hc0 : l0.length ≤ c0) (h : jL.f k l0 = some r) :
  Calls Tryz.prog 118 #[.slice A0 l0.length c0, .func (.func 119) #[] #[]] w fun e w' => e = .returned (.bool r) ∧ Below w.heap.size w w' := by
 have HR0 := ak hr0
 have xq := ak hc0
 clear hr0 hc0
 have HB := ak (Below.refl w.heap.size w)
 unfold jL.f at h; have H := h
 clear h
 replace H := bd H; obtain ⟨aop, A3, H⟩ := H
 obtain rfl := s1 H
 go_enter Tryz.func118, Tryz.ntmps118
 go_wp2_with (refine gB Tryz.func122 (bW.calls (cu HR0.out) xq.out A3.out) ?_; intro w4 hb; replace HB := bs HB hb; clear hb)
 go_ret
 exact ⟨er, ul HB.out⟩
def nJ.f (k : Nat) (l0 : List (gY)) : Option (Bool) := if (l0.length : Int) ≤ 20 then ((jL.f k l0).bind fun aoq => (some (!aoq))) else (some false)
theorem nJ.calls {k c0 : Nat} {A0 : Option Addr} {l0 : List (gY)} {r : Bool} {w : World} (hr0 : Kd.C qJ w A0 l0.length l0) (hc0 : l0.length ≤ c0) (h : nJ.f k l0 = some r) :
  Calls Tryz.prog 82 #[.slice A0 l0.length c0] w fun e w' => e = .returned (.bool r) ∧ Below w.heap.size w w' := by
 have HR0 := ak hr0
 have xq := ak hc0
 clear hr0 hc0
 have HB := ak (Below.refl w.heap.size w)
 unfold nJ.f at h; have H := h
 clear h
 replace H := sp H
 rcases H with ⟨c2, H⟩ | ⟨c2, H⟩
 ·
  have oI := decide_eq_true c2
  have uP : decide (l0.length ≤ 20) = true := decide_eq_true (by omega)
  clear c2
  replace H := bd H; obtain ⟨aoq, A3, H⟩ := H
  obtain rfl := s1 H
  go_enter Tryz.func82, Tryz.ntmps82
  go_wp2_with (go_at_call 118; refine mB (jL.calls (cu HR0.out) xq.out A3.out) ?_; intro w4 hb; replace HB := bs HB hb; clear hb)
  go_ret
  exact ⟨er, ul HB.out⟩
 ·
  have oI := decide_eq_false c2
  have uP : decide (l0.length ≤ 20) = false := decide_eq_false (by omega)
  clear c2
  obtain rfl := s1 H
  go_enter Tryz.func82, Tryz.ntmps82
  go_wp2
  go_ret
  exact ⟨er, ul HB.out⟩
end Go.Proofs.YtncdadcmghglkaaGreatDoor.PFnCountParts
