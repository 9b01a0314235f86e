/- Printed walks; conditions: those in each statement. -/
import Derived.Test.YtncdadcmghglkaaGreatDoorVFnKidValidQt
import Derived.Test.YtncdadcmghglkaaGreatDoorVFnKidValidYt
import Derived.Test.YtncdadcmghglkaaGreatDoorPFnKidValidx0
-- short
-- dense
-- sq
-- sq2
namespace Go.Proofs.YtncdadcmghglkaaGreatDoor.PFnKidValid
open Go.RowKit Go.Proofs.YtncdadcmghglkaaGreatDoor.X Go.Proofs.YtncdadcmghglkaaGreatDoorW.bI Go.Proofs.YtncdadcmghglkaaGreatDoorW.gq Go.Proofs.YtncdadcmghglkaaGreatDoorW.iJ
attribute [local go_sem] kJ kK mD mF jv jw kL kM   -- for this text's walks alone
set_option linter.unusedVariables false
set_option maxHeartbeats 8000000
set_option maxRecDepth 100000
set_option linter.unusedSimpArgs false
def bD.l0 : Nat → ByteArray → Int → Int → Option (Bool)
 | 0, _, _, _ => none
 | k + 1, x0, x5, x6 => if x6 < x5 then (if 0 ≤ x6 then (if x6 < (x0.size : Int) then (if (bt x0 x6) < 32 then (some false) else (if (bt x0 x6) > 126 then (some false) else (bD.l0 k x0 x5 (wrap64 (x6 + 1))))) else (none)) else (none)) else (some (decide ((x0.size : Int) ≤ 200)))
def bD.f (k : Nat) (a0 : ByteArray) : Option (Bool) := bD.l0 k a0 (a0.size : Int) 0
theorem bD.calls {k : Nat} {a0 : ByteArray} {r : Bool} {w : World} (h : bD.f k a0 = some r) :
  Calls Tryz.prog 89 #[.string a0] w fun e w' => e = .returned (.bool r) ∧ dS w w' := by
 unfold bD.f at h; have H := h
 clear h
 have H' := ak H; clear H
 go_enter Tryz.func89, Tryz.ntmps89
 go_wp2
 go_loopg [6] k (fun kq v6 w' => ∃ (jD : Int), v6 = .int .i64 jD ∧ ah (bD.l0 kq a0 (a0.size : Int) jD = some r) ∧ ah (kq ≤ k) ∧ dS w w')
 case atStart => exact ⟨_, rs, H', ⟨Nat.le_refl _⟩, dn⟩
 case round =>
  clear H'
  obtain ⟨jD, rfl, HA, xG, ⟨m1, rfl⟩⟩ := hrel
  cases gk with
  | zero => exact zz HA.out
  | succ k1 =>
   obtain ⟨H⟩ := HA
   simp only [bD.l0] at H
   replace H := sd H
   rcases H with ⟨nT, H⟩ | ⟨nT, H⟩
   ·
    replace H := oL H; obtain ⟨iO, H⟩ := H; replace H := oL H; obtain ⟨su, H⟩ := H; replace H := sd H
    rcases H with ⟨oz, H⟩ | ⟨oz, H⟩
    ·
     obtain rfl := s1 H
     obtain ⟨p5, q5, hx5⟩ := bx a0 jD
     go_wp2
     go_ret
     exact ⟨rs, dn⟩
    ·
     replace H := sp H
     rcases H with ⟨c8, H⟩ | ⟨c8, H⟩
     ·
      have tu : decide (126 < (bt a0 jD)) = true := decide_eq_true c8
      clear c8
      obtain rfl := s1 H
      obtain ⟨p5, q5, hx5⟩ := bx a0 jD
      obtain ⟨p7, q7, hx7⟩ := bx a0 jD
      go_wp2
      go_ret
      exact ⟨rs, dn⟩
     ·
      have tu : decide (126 < (bt a0 jD)) = false := decide_eq_false c8
      clear c8
      have H' := ak H; clear H
      obtain ⟨p5, q5, hx5⟩ := bx a0 jD
      obtain ⟨p7, q7, hx7⟩ := bx a0 jD
      go_wp2
      go_roundg k1
      case measure => exact kl
      case rel => exact ⟨_, rs, H', ⟨kl⟩, dn⟩
   ·
    obtain rfl := s1 H
    go_wp2
    go_ret
    exact ⟨rs, dn⟩
def kR.f (a0 : ByteArray) (a1 : ByteArray) : Option (ByteArray) := if a1.data.toList = [32] then (if a0.size ≤ 9223372036854775807 then some ⟨(Lib.trimB a0.data.toList 32).toArray⟩ else none) else none
theorem kR.calls {a0 a1 r : ByteArray} {w : World} (h : kR.f a0 a1 = some r) :
  Calls Tryz.prog 92 #[.string a0, .string a1] w fun e w' => e = .returned (.string r) ∧ dS w w' := by
 unfold kR.f at h
 split at h
 ·
  rename_i h1
  split at h
  ·
   rename_i hs
   injection h with h
   subst h
   have e1 : a1 = ⟨#[32]⟩ := by
    cases a1 with
    | mk d => exact congrArg ByteArray.mk (Array.toList_inj.mp h1)
   subst e1
   refine (Tryz.strings_Trim_one a0 32 (by decide) w hs).mono ?_
   rintro e w' ⟨he, hw⟩
   refine ⟨he, ?_⟩
   rcases hw with rfl | rfl
   ·
    exact ⟨⟨0, rfl⟩⟩
   ·
    exact ⟨⟨1, rfl⟩⟩
  ·
   cases h
 ·
  cases h
def bH.f (a0 : Int) : Option (Bool) := if a0 ≥ 97 then (if a0 ≤ 122 then (some true) else (if a0 ≥ 65 then (some (decide (a0 ≤ 90))) else (some false))) else (if a0 ≥ 65 then (some (decide (a0 ≤ 90))) else (some false))
theorem bH.calls {a0 : Int} {r : Bool} {w : World} (h : bH.f a0 = some r) :
  Calls Tryz.prog 140 #[.int .u8 a0] w fun e w' => e = .returned (.bool r) ∧ dS w w' := by
 unfold bH.f at h; have H := h
 clear h
 replace H := sp H
 rcases H with ⟨c2, H⟩ | ⟨c2, H⟩
 ·
  have nT : decide (97 ≤ a0) = true := decide_eq_true c2
  clear c2
  replace H := sd H
  rcases H with ⟨iO, H⟩ | ⟨iO, H⟩
  ·
   obtain rfl := s1 H
   go_enter Tryz.func140, Tryz.ntmps140
   go_wp2
   go_ret
   exact ⟨rs, dn⟩
  ·
   replace H := sp H
   rcases H with ⟨c4, H⟩ | ⟨c4, H⟩
   ·
    have su : decide (65 ≤ a0) = true := decide_eq_true c4
    clear c4
    obtain rfl := s1 H
    go_enter Tryz.func140, Tryz.ntmps140
    go_wp2
    go_ret
    exact ⟨rs, dn⟩
   ·
    have su : decide (65 ≤ a0) = false := decide_eq_false c4
    clear c4
    obtain rfl := s1 H
    go_enter Tryz.func140, Tryz.ntmps140
    go_wp2
    go_ret
    exact ⟨rs, dn⟩
 ·
  have nT : decide (97 ≤ a0) = false := decide_eq_false c2
  clear c2
  replace H := sp H
  rcases H with ⟨c5, H⟩ | ⟨c5, H⟩
  ·
   have nO : decide (65 ≤ a0) = true := decide_eq_true c5
   clear c5
   obtain rfl := s1 H
   go_enter Tryz.func140, Tryz.ntmps140
   go_wp2
   go_ret
   exact ⟨rs, dn⟩
  ·
   have nO : decide (65 ≤ a0) = false := decide_eq_false c5
   clear c5
   obtain rfl := s1 H
   go_enter Tryz.func140, Tryz.ntmps140
   go_wp2
   go_ret
   exact ⟨rs, dn⟩
def dH.f (a0 : Int) : Option (Bool) := if a0 ≥ 48 then (some (decide (a0 ≤ 57))) else (some false)
theorem dH.calls {a0 : Int} {r : Bool} {w : World} (h : dH.f a0 = some r) :
  Calls Tryz.prog 141 #[.int .u8 a0] w fun e w' => e = .returned (.bool r) ∧ dS w w' := by
 unfold dH.f at h; have H := h
 clear h
 replace H := sp H
 rcases H with ⟨c2, H⟩ | ⟨c2, H⟩
 ·
  have nT : decide (48 ≤ a0) = true := decide_eq_true c2
  clear c2
  obtain rfl := s1 H
  go_enter Tryz.func141, Tryz.ntmps141
  go_wp2
  go_ret
  exact ⟨rs, dn⟩
 ·
  have nT : decide (48 ≤ a0) = false := decide_eq_false c2
  clear c2
  obtain rfl := s1 H
  go_enter Tryz.func141, Tryz.ntmps141
  go_wp2
  go_ret
  exact ⟨rs, dn⟩
def qA.f (a0 : Int) : Option (Bool) := (bH.f a0).bind fun aps => (if aps = true then (some true) else ((dH.f a0).bind fun apt => (if apt = true then (some true) else (some (a0 == 45)))))
theorem qA.calls {a0 : Int} {r : Bool} {w : World} (h : qA.f a0 = some r) :
  Calls Tryz.prog 185 #[.int .u8 a0] w fun e w' => e = .returned (.bool r) ∧ dS w w' := by
 unfold qA.f at h; have H := h
 clear h
 replace H := bd H; obtain ⟨aps, A2, H⟩ := H; replace H := sb H
 rcases H with ⟨rfl, H⟩ | ⟨rfl, H⟩
 ·
  obtain rfl := s1 H
  go_enter Tryz.func185, Tryz.ntmps185
  go_wp2_with (refine gA Tryz.func140 (bH.calls A2.out) ?_; intro nd)
  go_ret
  exact ⟨rs, dn⟩
 ·
  replace H := bd H; obtain ⟨apt, A4, H⟩ := H; replace H := sb H
  rcases H with ⟨rfl, H⟩ | ⟨rfl, H⟩
  ·
   obtain rfl := s1 H
   go_enter Tryz.func185, Tryz.ntmps185
   go_wp2_with (first | (refine gA Tryz.func140 (bH.calls A2.out) ?_; intro nd) | (go_at_call 141; refine mA (dH.calls A4.out) ?_; intro nd))
   go_ret
   exact ⟨rs, dn⟩
  ·
   obtain rfl := s1 H
   go_enter Tryz.func185, Tryz.ntmps185
   go_wp2_with (first | (refine gA Tryz.func140 (bH.calls A2.out) ?_; intro nd) | (go_at_call 141; refine mA (dH.calls A4.out) ?_; intro nd))
   go_ret
   exact ⟨rs, dn⟩
def eF.l0 : Nat → ByteArray → Int → Int → Option (Bool)
 | 0, _, _, _ => none
 | k + 1, x0, x7, x8 => if x8 < x7 then (if 0 ≤ x8 then (if x8 < (x0.size : Int) then ((qA.f (bt x0 x8)).bind fun apu => (if apu = true then (eF.l0 k x0 x7 (wrap64 (x8 + 1))) else (some false))) else (none)) else (none)) else (some true)
def eF.f (k : Nat) (a0 : ByteArray)  : Option (Bool) := eF.l0 k a0 (a0.size : Int) 0
theorem eF.calls {k : Nat} {a0 : ByteArray} {r : Bool} {w : World} (h : eF.f k a0 = some r) :
  Calls Tryz.prog 138 #[.string a0, .func (.func 185) #[] #[]] w fun e w' => e = .returned (.bool r) ∧ dS w w' := by
 unfold eF.f at h; have H := h
 clear h
 have H' := ak H; clear H
 go_enter Tryz.func138, Tryz.ntmps138
 go_wp2
 go_loopg [8] k (fun kq v8 w' => ∃ (kV : Int), v8 = .int .i64 kV ∧ ah (eF.l0 kq a0 (a0.size : Int) kV = some r) ∧ ah (kq ≤ k) ∧ dS w w')
 case atStart => exact ⟨_, rs, H', ⟨Nat.le_refl _⟩, dn⟩
 case round =>
  clear H'
  obtain ⟨kV, rfl, HA, xG, ⟨m1, rfl⟩⟩ := hrel
  cases gk with
  | zero => exact zz HA.out
  | succ k1 =>
   obtain ⟨H⟩ := HA
   simp only [eF.l0] at H
   replace H := sd H
   rcases H with ⟨iO, H⟩ | ⟨iO, H⟩
   ·
    replace H := oL H; obtain ⟨su, H⟩ := H; replace H := oL H; obtain ⟨nO, H⟩ := H; replace H := bd H; obtain ⟨apu, A7, H⟩ := H; replace H := sb H
    rcases H with ⟨rfl, H⟩ | ⟨rfl, H⟩
    ·
     have H' := ak H; clear H
     obtain ⟨p6, q6, hx6⟩ := bx a0 kV
     go_wp2_with (go_at_call 185; refine mA (qA.calls A7.out) ?_; intro nd)
     go_roundg k1
     case measure => exact kl
     case rel => exact ⟨_, rs, H', ⟨kl⟩, dn⟩
    ·
     obtain rfl := s1 H
     obtain ⟨p6, q6, hx6⟩ := bx a0 kV
     go_wp2_with (go_at_call 185; refine mA (qA.calls A7.out) ?_; intro nd)
     go_ret
     exact ⟨rs, dn⟩
   ·
    obtain rfl := s1 H
    go_wp2
    go_ret
    exact ⟨rs, dn⟩
def jk.f (k : Nat) (a0 : ByteArray) : Option (Bool) := if (a0.size : Int) ≥ 1 then (if (a0.size : Int) ≤ 30 then (if 0 < (a0.size : Int) then ((bH.f (bt a0 0)).bind fun ag7 => (if ag7 = true then ((eF.f k a0).bind fun t105 => (some t105)) else (some false))) else (none)) else (some false)) else (some false)
theorem jk.calls {k : Nat} {a0 : ByteArray} {r : Bool} {w : World} (h : jk.f k a0 = some r) :
  Calls Tryz.prog 160 #[.string a0] w fun e w' => e = .returned (.bool r) ∧ dS w w' := by
 unfold jk.f at h; have H := h
 clear h
 replace H := sp H
 rcases H with ⟨c2, H⟩ | ⟨c2, H⟩
 ·
  have nT : decide (1 ≤ (a0.size : Int)) = true := decide_eq_true c2
  have uF : decide (1 ≤ a0.size) = true := decide_eq_true (by omega)
  clear c2
  replace H := sp H
  rcases H with ⟨c3, H⟩ | ⟨c3, H⟩
  ·
   have iO := decide_eq_true c3
   have Au : decide (a0.size ≤ 30) = true := decide_eq_true (by omega)
   clear c3
   replace H := nn H; obtain ⟨c4, H⟩ := H
   have su := decide_eq_true c4
   have XW : decide (0 < a0.size) = true := decide_eq_true (by omega)
   clear c4
   replace H := bd H; obtain ⟨ag7, A6, H⟩ := H; replace H := sb H
   rcases H with ⟨rfl, H⟩ | ⟨rfl, H⟩
   ·
    replace H := bd H; obtain ⟨t105, A8, H⟩ := H
    obtain rfl := s1 H
    have p5 : 0 ≤ (0 : Int) := (by omega)
    have q5 : 0 < a0.size := (by have : (0 : Int) < (a0.size : Int) := of_decide_eq_true (by assumption); omega)
    have hx5 : ∀ h : 0 < a0.size, ((a0[0]'h).toNat : Int) = bt a0 0 := vY a0 0
    clear p5
    have qi5 : (0 < (a0.size : Int)) = True := eq_true (of_decide_eq_true (by assumption))
    replace q5 := eq_true q5
    go_enter Tryz.func160, Tryz.ntmps160
    go_wp2_with (first | (go_at_call 140; refine mA (bH.calls A6.out) ?_; intro nd) | (go_at_call 138; refine mA (eF.calls A8.out) ?_; intro nd))
    go_ret
    exact ⟨rs, dn⟩
   ·
    obtain rfl := s1 H
    have p5 : 0 ≤ (0 : Int) := (by omega)
    have q5 : 0 < a0.size := (by have : (0 : Int) < (a0.size : Int) := of_decide_eq_true (by assumption); omega)
    have hx5 : ∀ h : 0 < a0.size, ((a0[0]'h).toNat : Int) = bt a0 0 := vY a0 0
    clear p5
    have qi5 : (0 < (a0.size : Int)) = True := eq_true (of_decide_eq_true (by assumption))
    replace q5 := eq_true q5
    go_enter Tryz.func160, Tryz.ntmps160
    go_wp2_with (go_at_call 140; refine mA (bH.calls A6.out) ?_; intro nd)
    go_ret
    exact ⟨rs, dn⟩
  ·
   have iO := decide_eq_false c3
   have Au : decide (a0.size ≤ 30) = false := decide_eq_false (by omega)
   clear c3
   obtain rfl := s1 H
   go_enter Tryz.func160, Tryz.ntmps160
   go_wp2
   go_ret
   exact ⟨rs, dn⟩
 ·
  have nT : decide (1 ≤ (a0.size : Int)) = false := decide_eq_false c2
  have uF : decide (1 ≤ a0.size) = false := decide_eq_false (by omega)
  clear c2
  obtain rfl := s1 H
  go_enter Tryz.func160, Tryz.ntmps160
  go_wp2
  go_ret
  exact ⟨rs, dn⟩
def pW.f (k : Nat) (eG : ByteArray) (eU : ByteArray) : Option (Bool) := (jk.f k eG).bind fun t107 => (if t107 = true then ((bD.f k eU).bind fun apv => (if apv = true then (if (eU.size : Int) ≤ 150 then ((kR.f eU (⟨#[32]⟩ : ByteArray)).bind fun t109 => (some (t109.toList == eU.toList))) else (some false)) else (some false))) else (some false))
theorem pW.calls {k : Nat} {eG eU : ByteArray} {r : Bool} {w : World} (h : pW.f k eG eU = some r) :
  Calls Tryz.prog 120 #[.agg #[.string eG, .string eU]] w fun e w' => e = .returned (.bool r) ∧ Below w.heap.size w w' := by
 have DU := Tryz.underlying69
 have HB := ak (Below.refl w.heap.size w)
 unfold pW.f at h; have H := h
 clear h
 replace H := bd H; obtain ⟨t107, A2, H⟩ := H; replace H := sb H
 rcases H with ⟨rfl, H⟩ | ⟨rfl, H⟩
 ·
  replace H := bd H; obtain ⟨apv, A4, H⟩ := H; replace H := sb H
  rcases H with ⟨rfl, H⟩ | ⟨rfl, H⟩
  ·
   replace H := sp H
   rcases H with ⟨c6, H⟩ | ⟨c6, H⟩
   ·
    have oz := decide_eq_true c6
    have xH : decide (eU.size ≤ 150) = true := decide_eq_true (by omega)
    clear c6
    replace H := bd H; obtain ⟨t109, A7, H⟩ := H
    obtain rfl := s1 H
    go_enter Tryz.func120, Tryz.ntmps120
    go_wp2_with (first | (refine gG 1 ?_; refine bX HB 1 #[.string eG, .string eU] 69 ?_; intro Fa w8 uP Fb hb; replace HB := bs HB hb; clear hb; have z9 := zQ uP.out) | (go_at_call 160; refine mA (jk.calls A2.out) ?_; intro nd; (try exact dq)) | (go_at_call 89; refine mA (bD.calls A4.out) ?_; intro nd; (try exact dq)) | (go_at_call 92; refine mA (kR.calls A7.out) ?_; intro nd; (try exact dq)))
    repeat (go_quiet (first | (refine gG 1 ?_; refine bX HB 1 #[.string eG, .string eU] 69 ?_; intro Fa w8 uP Fb hb; replace HB := bs HB hb; clear hb; have z9 := zQ uP.out) | (go_at_call 160; refine mA (jk.calls A2.out) ?_; intro nd; (try exact dq)) | (go_at_call 89; refine mA (bD.calls A4.out) ?_; intro nd; (try exact dq)) | (go_at_call 92; refine mA (kR.calls A7.out) ?_; intro nd; (try exact dq))); try go_wp2_with (first | (refine gG 1 ?_; refine bX HB 1 #[.string eG, .string eU] 69 ?_; intro Fa w8 uP Fb hb; replace HB := bs HB hb; clear hb; have z9 := zQ uP.out) | (go_at_call 160; refine mA (jk.calls A2.out) ?_; intro nd; (try exact dq)) | (go_at_call 89; refine mA (bD.calls A4.out) ?_; intro nd; (try exact dq)) | (go_at_call 92; refine mA (kR.calls A7.out) ?_; intro nd; (try exact dq))))
    go_ret
    exact ⟨er, bb⟩
   ·
    have oz := decide_eq_false c6
    have xH : decide (eU.size ≤ 150) = false := decide_eq_false (by omega)
    clear c6
    obtain rfl := s1 H
    go_enter Tryz.func120, Tryz.ntmps120
    go_wp2_with (first | (refine gG 1 ?_; refine bX HB 1 #[.string eG, .string eU] 69 ?_; intro Fa w10 uP Fb hb; replace HB := bs HB hb; clear hb; have z11 := zQ uP.out) | (go_at_call 160; refine mA (jk.calls A2.out) ?_; intro nd; (try exact dq)) | (go_at_call 89; refine mA (bD.calls A4.out) ?_; intro nd; (try exact dq)))
    repeat (go_quiet (first | (refine gG 1 ?_; refine bX HB 1 #[.string eG, .string eU] 69 ?_; intro Fa w10 uP Fb hb; replace HB := bs HB hb; clear hb; have z11 := zQ uP.out) | (go_at_call 160; refine mA (jk.calls A2.out) ?_; intro nd; (try exact dq)) | (go_at_call 89; refine mA (bD.calls A4.out) ?_; intro nd; (try exact dq))); try go_wp2_with (first | (refine gG 1 ?_; refine bX HB 1 #[.string eG, .string eU] 69 ?_; intro Fa w10 uP Fb hb; replace HB := bs HB hb; clear hb; have z11 := zQ uP.out) | (go_at_call 160; refine mA (jk.calls A2.out) ?_; intro nd; (try exact dq)) | (go_at_call 89; refine mA (bD.calls A4.out) ?_; intro nd; (try exact dq))))
    go_ret
    exact ⟨er, bb⟩
  ·
   obtain rfl := s1 H
   go_enter Tryz.func120, Tryz.ntmps120
   go_wp2_with (first | (refine gG 1 ?_; refine bX HB 1 #[.string eG, .string eU] 69 ?_; intro Fa w12 uP Fb hb; replace HB := bs HB hb; clear hb; have z13 := zQ uP.out) | (go_at_call 160; refine mA (jk.calls A2.out) ?_; intro nd; (try exact dq)) | (go_at_call 89; refine mA (bD.calls A4.out) ?_; intro nd; (try exact dq)))
   repeat (go_quiet (first | (refine gG 1 ?_; refine bX HB 1 #[.string eG, .string eU] 69 ?_; intro Fa w12 uP Fb hb; replace HB := bs HB hb; clear hb; have z13 := zQ uP.out) | (go_at_call 160; refine mA (jk.calls A2.out) ?_; intro nd; (try exact dq)) | (go_at_call 89; refine mA (bD.calls A4.out) ?_; intro nd; (try exact dq))); try go_wp2_with (first | (refine gG 1 ?_; refine bX HB 1 #[.string eG, .string eU] 69 ?_; intro Fa w12 uP Fb hb; replace HB := bs HB hb; clear hb; have z13 := zQ uP.out) | (go_at_call 160; refine mA (jk.calls A2.out) ?_; intro nd; (try exact dq)) | (go_at_call 89; refine mA (bD.calls A4.out) ?_; intro nd; (try exact dq))))
   go_ret
   exact ⟨er, bb⟩
 ·
  obtain rfl := s1 H
  go_enter Tryz.func120, Tryz.ntmps120
  go_wp2_with (first | (refine gG 1 ?_; refine bX HB 1 #[.string eG, .string eU] 69 ?_; intro Fa SA uP Fb hb; replace HB := bs HB hb; clear hb; have z15 := zQ uP.out) | (go_at_call 160; refine mA (jk.calls A2.out) ?_; intro nd; (try exact dq)))
  repeat (go_quiet (first | (refine gG 1 ?_; refine bX HB 1 #[.string eG, .string eU] 69 ?_; intro Fa SA uP Fb hb; replace HB := bs HB hb; clear hb; have z15 := zQ uP.out) | (go_at_call 160; refine mA (jk.calls A2.out) ?_; intro nd; (try exact dq))); try go_wp2_with (first | (refine gG 1 ?_; refine bX HB 1 #[.string eG, .string eU] 69 ?_; intro Fa SA uP Fb hb; replace HB := bs HB hb; clear hb; have z15 := zQ uP.out) | (go_at_call 160; refine mA (jk.calls A2.out) ?_; intro nd; (try exact dq))))
  go_ret
  exact ⟨er, bb⟩
def nH.f (k : Nat) (eG : ByteArray) (eU : ByteArray) : Option (Bool) := (pW.f k eG eU).bind fun apw => (some (!apw))
theorem nH.calls {k : Nat} {eG eU : ByteArray} {r : Bool} {w : World} (h : nH.f k eG eU = some r) :
  Calls Tryz.prog 119 #[.agg #[.string eG, .string eU]] w fun e w' => e = .returned (.bool r) ∧ Below w.heap.size w w' := by
 have DU := Tryz.underlying69
 have HB := ak (Below.refl w.heap.size w)
 unfold nH.f at h; have H := h
 clear h
 replace H := bd H; obtain ⟨apw, A2, H⟩ := H
 obtain rfl := s1 H
 go_enter Tryz.func119, Tryz.ntmps119
 go_wp2_with (first | (refine bX HB 1 #[.string eG, .string eU] 69 ?_; intro aBF w3 adv aBG hb; replace HB := bs HB hb; clear hb; have z4 := zQ adv.out) | (refine gB Tryz.func120 (pW.calls A2.out) ?_; intro w5 hb; replace adv := kb adv hb; replace HB := bz HB hb; clear hb))
 go_ret
 exact ⟨er, bb⟩
def bW.l0 : Nat → List (gU) → Int → Int → Option (Int)
 | 0, _, _, _ => none
 | k + 1, x0, x7, x8 => if x8 < x7 then (if 0 ≤ x8 then (if x8 < (x0.length : Int) then ((nH.f k ((fB x0 x8).f0) ((fB x0 x8).f1)).bind fun apx => (if apx = true then (some x8) else (bW.l0 k x0 x7 (wrap64 (x8 + 1))))) else (none)) else (none)) else (some (-1))
def bW.f (k : Nat) (l0 : List (gU))  : Option (Int) := bW.l0 k l0 (l0.length : Int) 0
theorem bW.calls {k c0 : Nat} {A0 : Option Addr} {l0 : List (gU)} {r : Int} {w : World} (hr0 : Kd.C qj w A0 l0.length l0) (hc0 : l0.length ≤ c0) (h : bW.f k l0 = some r) :
  Calls Tryz.prog 122 #[.slice A0 l0.length c0, .func (.func 119) #[] #[]] w fun e w' => e = .returned (.int .i64 r) ∧ Below w.heap.size w w' := by
 have DU := Tryz.underlying69
 have HR0 := ak hr0
 have yu := ak hc0
 clear hr0 hc0
 have HB := ak (Below.refl w.heap.size w)
 unfold bW.f at h; have H := h
 clear h
 have H' := ak H; clear H
 go_enter Tryz.func122, Tryz.ntmps122
 go_wp2
 go_loopg [8] k (fun kq v8 w' => ∃ (kV : Int), v8 = .int .i64 kV ∧ ah (bW.l0 kq l0 (l0.length : Int) kV = some r) ∧ ah (kq ≤ k) ∧ ah (Below w.heap.size w w'))
 case atStart => exact ⟨_, rs, H', ⟨Nat.le_refl _⟩, ⟨ul HB.out⟩⟩
 case round =>
  clear H'
  obtain ⟨kV, rfl, HA, xG, HB⟩ := hrel
  cases gk with
  | zero => exact zz HA.out
  | succ k1 =>
   obtain ⟨H⟩ := HA
   simp only [bW.l0] at H
   replace H := sd H
   rcases H with ⟨iO, H⟩ | ⟨iO, H⟩
   ·
    replace H := oL H; obtain ⟨su, H⟩ := H; replace H := oL H; obtain ⟨nO, H⟩ := H; replace H := bd H; obtain ⟨apx, A6, H⟩ := H; replace H := sb H
    rcases H with ⟨rfl, H⟩ | ⟨rfl, H⟩
    ·
     obtain rfl := s1 H
     have XY := zi kV
     have XZ := zj kV l0.length
     obtain ⟨apy, amr, Jl, Jm⟩ := qX HR0.out kV XY XZ
     cases amr
     replace Jl := cl HB.out Jl
     replace Jm := cl HB.out Jm
     replace XY := eq_true XY
     replace XZ := eq_true XZ
     go_wp2_with (go_at_call 119; refine mB (nH.calls A6.out) ?_; intro w8 hb; replace HB := bs HB hb; clear hb)
     go_ret
     exact ⟨er, ul HB.out⟩
    ·
     have H' := ak H; clear H
     have XY := zi kV
     have XZ := zj kV l0.length
     obtain ⟨apy, amr, Jl, Jm⟩ := qX HR0.out kV XY XZ
     cases amr
     replace Jl := cl HB.out Jl
     replace Jm := cl HB.out Jm
     replace XY := eq_true XY
     replace XZ := eq_true XZ
     go_wp2_with (go_at_call 119; refine mB (nH.calls A6.out) ?_; intro w9 hb; replace HB := bs HB hb; clear hb)
     go_roundg k1
     case measure => exact kl
     case rel => exact ⟨_, rs, H', ⟨kl⟩, ⟨ul HB.out⟩⟩
   ·
    obtain rfl := s1 H
    go_wp2
    go_ret
    exact ⟨er, ul HB.out⟩
def jI.f (k : Nat) (l0 : List (gU))  : Option (Bool) := (bW.f k l0).bind fun apz => (some (decide (apz ≥ 0)))
theorem jI.calls {k c0 : Nat} {A0 : Option Addr} {l0 : List (gU)} {r : Bool} {w : World} (hr0 : Kd.C qj w A0 l0.length l0) (hc0 : l0.length ≤ c0) (h : jI.f k l0 = some r) :
  Calls Tryz.prog 118 #[.slice A0 l0.length c0, .func (.func 119) #[] #[]] w fun e w' => e = .returned (.bool r) ∧ Below w.heap.size w w' := by
 have HR0 := ak hr0
 have yu := ak hc0
 clear hr0 hc0
 have HB := ak (Below.refl w.heap.size w)
 unfold jI.f at h; have H := h
 clear h
 replace H := bd H; obtain ⟨apz, A3, H⟩ := H
 obtain rfl := s1 H
 go_enter Tryz.func118, Tryz.ntmps118
 go_wp2_with (refine gB Tryz.func122 (bW.calls (cu HR0.out) yu.out A3.out) ?_; intro w4 hb; replace HB := bs HB hb; clear hb)
 go_ret
 exact ⟨er, ul HB.out⟩
def nI.f (k : Nat) (l0 : List (gU)) : Option (Bool) := if (l0.length : Int) ≤ 20 then ((jI.f k l0).bind fun apA => (some (!apA))) else (some false)
theorem nI.calls {k c0 : Nat} {A0 : Option Addr} {l0 : List (gU)} {r : Bool} {w : World} (hr0 : Kd.C qj w A0 l0.length l0) (hc0 : l0.length ≤ c0) (h : nI.f k l0 = some r) :
  Calls Tryz.prog 82 #[.slice A0 l0.length c0] w fun e w' => e = .returned (.bool r) ∧ Below w.heap.size w w' := by
 have HR0 := ak hr0
 have yu := ak hc0
 clear hr0 hc0
 have HB := ak (Below.refl w.heap.size w)
 unfold nI.f at h; have H := h
 clear h
 replace H := sp H
 rcases H with ⟨c2, H⟩ | ⟨c2, H⟩
 ·
  have nT := decide_eq_true c2
  have uF : decide (l0.length ≤ 20) = true := decide_eq_true (by omega)
  clear c2
  replace H := bd H; obtain ⟨apA, A3, H⟩ := H
  obtain rfl := s1 H
  go_enter Tryz.func82, Tryz.ntmps82
  go_wp2_with (go_at_call 118; refine mB (jI.calls (cu HR0.out) yu.out A3.out) ?_; intro w4 hb; replace HB := bs HB hb; clear hb)
  go_ret
  exact ⟨er, ul HB.out⟩
 ·
  have nT := decide_eq_false c2
  have uF : decide (l0.length ≤ 20) = false := decide_eq_false (by omega)
  clear c2
  obtain rfl := s1 H
  go_enter Tryz.func82, Tryz.ntmps82
  go_wp2
  go_ret
  exact ⟨er, ul HB.out⟩
end Go.Proofs.YtncdadcmghglkaaGreatDoor.PFnKidValid
