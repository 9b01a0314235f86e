/- Printed walks; conditions: those in each statement. -/
import Derived.Test.YtncdadcmghglkaaGreatDoorVFnCountPartsQt
import Derived.Test.YtncdadcmghglkaaGreatDoorVFnCountPartsYt
import Derived.Test.YtncdadcmghglkaaGreatDoorPFnCountPartsx0
import Derived.Test.YtncdadcmghglkaaGreatDoorPFnCountPartsx11
import Derived.Test.YtncdadcmghglkaaGreatDoorPFnCountPartsx20
-- short
-- dense
-- sq
-- sq2
namespace Go.Proofs.YtncdadcmghglkaaGreatDoor.PFnCountParts
open Go.RowKit Go.Proofs.YtncdadcmghglkaaGreatDoor.X Go.Proofs.YtncdadcmghglkaaGreatDoorW.bI Go.Proofs.YtncdadcmghglkaaGreatDoorW.gI Go.Proofs.YtncdadcmghglkaaGreatDoorW.iL
attribute [local go_sem] kN kP mF mG jB jC kQ kR   -- for this text's walks alone
set_option linter.unusedVariables false
set_option maxHeartbeats 8000000
set_option maxRecDepth 100000
set_option linter.unusedSimpArgs false
def wO.f (a0 : Int) : Option (ByteArray) := if a0 = 32 then (some (⟨#[95]⟩ : ByteArray)) else ((gK.f a0).bind fun ara => (if ara = true then (some (strOfNums (([a0] : List Int)))) else (if a0 = 45 then (some (strOfNums (([a0] : List Int)))) else (if a0 = 46 then (some (strOfNums (([a0] : List Int)))) else ((lQ.f a0).bind fun arb => (some arb))))))
theorem wO.calls {a0 : Int} {r : ByteArray} {w : World} (h : wO.f a0 = some r) :
  Calls Tryz.prog 216 #[.int .u8 a0] w fun e w' => e = .returned (.string r) ∧ Below w.heap.size w w' := by
 have HB := ak (Below.refl w.heap.size w)
 unfold wO.f at h; have H := h
 clear h
 replace H := sq H
 rcases H with ⟨oI, uP, H⟩ | ⟨c2, oI, uP, H⟩
 ·
  obtain rfl := s1 H
  go_enter Tryz.func216, Tryz.ntmps216
  go_wp2
  go_ret
  exact ⟨er, ul HB.out⟩
 ·
  replace H := bd H; obtain ⟨ara, A3, H⟩ := H; replace H := sb H
  rcases H with ⟨rfl, H⟩ | ⟨rfl, H⟩
  ·
   obtain ⟨aEK, ajm⟩ := nm ([a0] : List Int)
   rw [← ajm.out] at H
   obtain rfl := s1 H
   go_enter Tryz.func216, Tryz.ntmps216
   go_wp2_with (first | (refine gA Tryz.func183 (gK.calls A3.out) ?_; intro nd) | (refine QC 16 (Kd.int .u8) 5 [.int .u8 a0] ajm (dD.one (show Kd.M (Kd.int .u8) _ _ _ a0 [.int .u8 a0] from rfl) (dD.none _ _)) ?_; intro aEL w5 ZH hb; have ard := ak (Kd.aA ZH (aj (ul HB.out))); replace HB := bs HB hb; clear hb ZH; have aEM := qK (P := Tryz.prog) Tryz.underlying22 Tryz.underlying5 Tryz.underlying9 (Kd.uX ard.out)))
   go_ret
   exact ⟨er, ul HB.out⟩
  ·
   replace H := sq H
   rcases H with ⟨sH, Ba, H⟩ | ⟨c8, sH, Ba, H⟩
   ·
    obtain ⟨aEN, ajn⟩ := nm ([a0] : List Int)
    rw [← ajn.out] at H
    obtain rfl := s1 H
    go_enter Tryz.func216, Tryz.ntmps216
    go_wp2_with (first | (refine gA Tryz.func183 (gK.calls A3.out) ?_; intro nd) | (refine QC 16 (Kd.int .u8) 5 [.int .u8 a0] ajn (dD.one (show Kd.M (Kd.int .u8) _ _ _ a0 [.int .u8 a0] from rfl) (dD.none _ _)) ?_; intro aEO w9 NM hb; have arf := ak (Kd.aA NM (aj (ul HB.out))); replace HB := bs HB hb; clear hb NM; have arh := qK (P := Tryz.prog) Tryz.underlying22 Tryz.underlying5 Tryz.underlying9 (Kd.uX arf.out)))
    go_ret
    exact ⟨er, ul HB.out⟩
   ·
    replace H := sq H
    rcases H with ⟨xw, CP, H⟩ | ⟨c12, xw, CP, H⟩
    ·
     obtain ⟨aEP, ajo⟩ := nm ([a0] : List Int)
     rw [← ajo.out] at H
     obtain rfl := s1 H
     go_enter Tryz.func216, Tryz.ntmps216
     go_wp2_with (first | (refine gA Tryz.func183 (gK.calls A3.out) ?_; intro nd) | (refine QC 16 (Kd.int .u8) 5 [.int .u8 a0] ajo (dD.one (show Kd.M (Kd.int .u8) _ _ _ a0 [.int .u8 a0] from rfl) (dD.none _ _)) ?_; intro aEQ w13 adL hb; have ari := ak (Kd.aA adL (aj (ul HB.out))); replace HB := bs HB hb; clear hb adL; have arj := qK (P := Tryz.prog) Tryz.underlying22 Tryz.underlying5 Tryz.underlying9 (Kd.uX ari.out)))
     go_ret
     exact ⟨er, ul HB.out⟩
    ·
     replace H := bd H; obtain ⟨arb, A16, H⟩ := H
     obtain rfl := s1 H
     go_enter Tryz.func216, Tryz.ntmps216
     go_wp2_with (first | (refine gA Tryz.func183 (gK.calls A3.out) ?_; intro nd) | (refine gA Tryz.func221 (lQ.calls A16.out) ?_; intro nd))
     go_ret
     exact ⟨er, ul HB.out⟩
def jE.l0 : Nat → ByteArray → ByteArray → Int → Option (ByteArray)
 | 0, _, _, _ => none
 | k + 1, x0, x3, x4 => if x4 < (x0.size : Int) then (if 0 ≤ x4 then ((wO.f (bt x0 x4)).bind fun ag5 => (if x3.size + ag5.size ≤ 9223372036854775807 then (jE.l0 k x0 (x3 ++ ag5) (wrap64 (x4 + 1))) else (none))) else (none)) else (some x3)
def jE.f (k : Nat) (a0 : ByteArray) : Option (ByteArray) := jE.l0 k a0 (⟨#[]⟩ : ByteArray) 0
theorem jE.calls {k : Nat} {a0 r : ByteArray} {w : World} (h : jE.f k a0 = some r) :
  Calls Tryz.prog 208 #[.string a0] w fun e w' => e = .returned (.string r) ∧ Below w.heap.size w w' := by
 have HB := ak (Below.refl w.heap.size w)
 unfold jE.f at h; have H := h
 clear h
 have H' := ak H; clear H
 go_enter Tryz.func208, Tryz.ntmps208
 go_wp2
 go_loopg [3, 4] k (fun kq v3 v4 w' => ∃ (dM : ByteArray) (dW : Int), v3 = .string dM ∧ v4 = .int .i64 dW ∧ ah (jE.l0 kq a0 dM dW = some r) ∧ ah (kq ≤ k) ∧ ah (Below w.heap.size w w'))
 case atStart => exact ⟨_, _, rs, rs, H', ⟨Nat.le_refl _⟩, ⟨ul HB.out⟩⟩
 case round =>
  clear H'
  obtain ⟨dM, dW, rfl, rfl, HA, xu, HB⟩ := hrel
  cases gk with
  | zero => exact zz HA.out
  | succ k1 =>
   obtain ⟨H⟩ := HA
   simp only [jE.l0] at H
   replace H := sd H
   rcases H with ⟨oI, H⟩ | ⟨oI, H⟩
   ·
    replace H := oM H; obtain ⟨iQ, H⟩ := H; replace H := bd H; obtain ⟨ag5, A5, H⟩ := H; replace H := nn H; obtain ⟨c6, H⟩ := H
    have nT := eq_true c6
    have wF := decide_eq_true c6
    try have agm : (9223372036854775807 < dM.size + ag5.size) = False := eq_false (Nat.not_lt.2 c6)
    have H' := ak H; clear H
    obtain ⟨p4, q4, hx4⟩ := bx a0 dW
    go_wp2_with (refine gB Tryz.func216 (wO.calls A5.out) ?_; intro w7 hb; replace HB := bs HB hb; clear hb)
    go_roundg k1
    case measure => exact kl
    case rel => exact ⟨_, _, rs, rs, H', ⟨kl⟩, ⟨ul HB.out⟩⟩
   ·
    obtain rfl := s1 H
    go_wp2
    go_ret
    exact ⟨er, ul HB.out⟩
def iM.j0 : Nat → ByteArray → Bool → Option (ByteArray × Bool)
 | 0, _, _ => none
 | k + 1, x0, x12 => if x12 = true then (some ((⟨#[]⟩ : ByteArray), false)) else ((jE.f k x0).bind fun y9 => (if 10 + y9.size ≤ 9223372036854775807 then (if ((⟨#[61, 63, 117, 116, 102, 45, 56, 63, 113, 63]⟩ : ByteArray) ++ y9).size + 2 ≤ 9223372036854775807 then (if ((((⟨#[61, 63, 117, 116, 102, 45, 56, 63, 113, 63]⟩ : ByteArray) ++ y9) ++ (⟨#[63, 61]⟩ : ByteArray)).size : Int) > 40 then (some ((⟨#[]⟩ : ByteArray), false)) else (some (((⟨#[61, 63, 117, 116, 102, 45, 56, 63, 113, 63]⟩ : ByteArray) ++ y9) ++ (⟨#[63, 61]⟩ : ByteArray), true))) else (none)) else (none)))
def iM.f (k : Nat) (a0 : ByteArray) : Option (ByteArray × Bool) := if (a0.size : Int) < 1 then (iM.j0 k a0 true) else (iM.j0 k a0 (decide ((a0.size : Int) > 40)))
theorem iM.calls {k : Nat} {a0 r1 : ByteArray} {r2 : Bool} {w : World} (h : iM.f k a0 = some (r1, r2)) :
  Calls Tryz.prog 209 #[.string a0] w fun e w' => e = .returned (.tuple #[.string r1, .bool r2]) ∧ Below w.heap.size w w' := by
 have HB := ak (Below.refl w.heap.size w)
 unfold iM.f at h; have H := h
 clear h
 have HC2 := ak H
 clear H
 go_enter Tryz.func209, Tryz.ntmps209
 go_upto_region 1 with (fail)
 go_cut [12] (fun v12 wc => ∃ (kq : Nat) (adM : Bool), v12 = .bool adM ∧ ah (iM.j0 kq a0 adM = some (r1, r2)) ∧ ah (kq ≤ k) ∧ ah (Below w.heap.size w wc))
 case first =>
  have H := HC2.out
  clear HC2
  replace H := sp H
  rcases H with ⟨c3, H⟩ | ⟨c3, H⟩
  ·
   have iQ := decide_eq_true c3
   have zZ : decide (a0.size < 1) = true := decide_eq_true (by omega)
   clear c3
   (first | rw [iQ] | (simp only [dU, fU]; rw [iQ]) | skip)
   have H' := ak H; clear H
   go_wp2
   go_meet
   case rel => exact ⟨_, _, rs, H', ⟨KR⟩, ⟨ul HB.out⟩⟩
  ·
   have iQ := decide_eq_false c3
   have zZ : decide (a0.size < 1) = false := decide_eq_false (by omega)
   clear c3
   (first | rw [iQ] | (simp only [dU, fU]; rw [iQ]) | skip)
   have H' := ak H; clear H
   go_wp2
   go_meet
   case rel => exact ⟨_, _, rs, H', ⟨KR⟩, ⟨ul HB.out⟩⟩
 case rest =>
  clear HC2
  obtain ⟨kq, adM, rfl, HA, HJ1, HB⟩ := hcut
  cases kq with
  | zero => exact zz HA.out
  | succ NI =>
   obtain ⟨H⟩ := HA
   simp only [iM.j0] at H
   replace H := sb H
   rcases H with ⟨rfl, H⟩ | ⟨rfl, H⟩
   ·
    obtain ⟨rfl, rfl⟩ := s2 H
    go_wp2
    go_ret2
    exact ⟨er, ul HB.out⟩
   ·
    replace H := bd H; obtain ⟨y9, A5, H⟩ := H; replace H := nn H; obtain ⟨c6, H⟩ := H
    have nT := eq_true c6
    have wF := decide_eq_true c6
    try have agm : (9223372036854775807 < 10 + y9.size) = False := eq_false (Nat.not_lt.2 c6)
    replace H := nn H; obtain ⟨c7, H⟩ := H
    have rY := eq_true c7
    have Lc := decide_eq_true c7
    try have aER : (9223372036854775807 < 10 + y9.size + 2) = False := by have h_ := (eq_false (Nat.not_lt.2 c7) : (9223372036854775807 < ((⟨#[61, 63, 117, 116, 102, 45, 56, 63, 113, 63]⟩ : ByteArray) ++ y9).size + 2) = False); simp only [ByteArray.size_append] at h_; exact h_
    try have ax9 : (9223372036854775807 < ((⟨#[61, 63, 117, 116, 102, 45, 56, 63, 113, 63]⟩ : ByteArray) ++ y9).size + 2) = False := eq_false (Nat.not_lt.2 c7)
    replace H := sp H
    rcases H with ⟨c8, H⟩ | ⟨c8, H⟩
    ·
     have sH : decide (40 < ((((⟨#[61, 63, 117, 116, 102, 45, 56, 63, 113, 63]⟩ : ByteArray) ++ y9) ++ (⟨#[63, 61]⟩ : ByteArray)).size : Int)) = true := decide_eq_true c8
     have Ba : decide (40 < (((⟨#[61, 63, 117, 116, 102, 45, 56, 63, 113, 63]⟩ : ByteArray) ++ y9) ++ (⟨#[63, 61]⟩ : ByteArray)).size) = true := decide_eq_true (by omega)
     (try (have adA : decide (40 < 10 + (y9.size : Int) + 2) = true := decide_eq_true (by have e0_ : (((⟨#[61, 63, 117, 116, 102, 45, 56, 63, 113, 63]⟩ : ByteArray) ++ y9) ++ (⟨#[63, 61]⟩ : ByteArray)).size = 10 + y9.size + 2 := (by first | (simp only [ByteArray.size_append]; rfl) | simp only [ByteArray.size_append]); omega)))
     (try (have ark : decide (40 < 10 + y9.size + 2) = true := decide_eq_true (by have e0_ : (((⟨#[61, 63, 117, 116, 102, 45, 56, 63, 113, 63]⟩ : ByteArray) ++ y9) ++ (⟨#[63, 61]⟩ : ByteArray)).size = 10 + y9.size + 2 := (by first | (simp only [ByteArray.size_append]; rfl) | simp only [ByteArray.size_append]); omega)))
     clear c8
     obtain ⟨rfl, rfl⟩ := s2 H
     go_wp2_with (refine gB Tryz.func208 (jE.calls A5.out) ?_; intro w9 hb; replace HB := bs HB hb; clear hb)
     go_ret2
     exact ⟨er, ul HB.out⟩
    ·
     have sH : decide (40 < ((((⟨#[61, 63, 117, 116, 102, 45, 56, 63, 113, 63]⟩ : ByteArray) ++ y9) ++ (⟨#[63, 61]⟩ : ByteArray)).size : Int)) = false := decide_eq_false c8
     have Ba : decide (40 < (((⟨#[61, 63, 117, 116, 102, 45, 56, 63, 113, 63]⟩ : ByteArray) ++ y9) ++ (⟨#[63, 61]⟩ : ByteArray)).size) = false := decide_eq_false (by omega)
     (try (have adA : decide (40 < 10 + (y9.size : Int) + 2) = false := decide_eq_false (by have e0_ : (((⟨#[61, 63, 117, 116, 102, 45, 56, 63, 113, 63]⟩ : ByteArray) ++ y9) ++ (⟨#[63, 61]⟩ : ByteArray)).size = 10 + y9.size + 2 := (by first | (simp only [ByteArray.size_append]; rfl) | simp only [ByteArray.size_append]); omega)))
     (try (have ark : decide (40 < 10 + y9.size + 2) = false := decide_eq_false (by have e0_ : (((⟨#[61, 63, 117, 116, 102, 45, 56, 63, 113, 63]⟩ : ByteArray) ++ y9) ++ (⟨#[63, 61]⟩ : ByteArray)).size = 10 + y9.size + 2 := (by first | (simp only [ByteArray.size_append]; rfl) | simp only [ByteArray.size_append]); omega)))
     clear c8
     obtain ⟨rfl, rfl⟩ := s2 H
     go_wp2_with (refine gB Tryz.func208 (jE.calls A5.out) ?_; intro w10 hb; replace HB := bs HB hb; clear hb)
     go_ret2
     exact ⟨er, ul HB.out⟩
mutual
def bJ.l0 : Nat → ByteArray → ByteArray → Int → Option (ByteArray × Bool)
 | 0, _, _, _ => none
 | k + 1, x0, x4, x5 => if x5 < (x0.size : Int) then (bJ.l1 k x0 x4 x5 (wrap64 (x5 + 1))) else (some (x4, true))
def bJ.l1 : Nat → ByteArray → ByteArray → Int → Int → Option (ByteArray × Bool)
 | 0, _, _, _, _ => none
 | k + 1, x0, x4, x5, x6 => if x6 < (x0.size : Int) then (if 0 ≤ x5 then (if x5 ≤ (wrap64 (x6 + 1)) then (if (wrap64 (x6 + 1)) ≤ (x0.size : Int) then ((jE.f k (x0.extract (x5 : Int).toNat ((wrap64 (x6 + 1)) : Int).toNat)).bind fun ag6 => (if (ag6.size : Int) ≤ 28 then (bJ.l1 k x0 x4 x5 (wrap64 (x6 + 1))) else (if x5 ≤ x6 then (if x6 ≤ (x0.size : Int) then ((iM.f k (x0.extract (x5 : Int).toNat (x6 : Int).toNat)).bind fun Z_ => (if x5 > 0 then (if x4.size + 1 ≤ 9223372036854775807 then (if (x4 ++ (⟨#[32]⟩ : ByteArray)).size + Z_.1.size ≤ 9223372036854775807 then (bJ.l0 k x0 ((x4 ++ (⟨#[32]⟩ : ByteArray)) ++ Z_.1) x6) else (none)) else (none)) else (if x4.size + Z_.1.size ≤ 9223372036854775807 then (bJ.l0 k x0 (x4 ++ Z_.1) x6) else (none)))) else (none)) else (none)))) else (none)) else (none)) else (none)) else (if 0 ≤ x5 then (if x5 ≤ x6 then (if x6 ≤ (x0.size : Int) then ((iM.f k (x0.extract (x5 : Int).toNat (x6 : Int).toNat)).bind fun aac => (if x5 > 0 then (if x4.size + 1 ≤ 9223372036854775807 then (if (x4 ++ (⟨#[32]⟩ : ByteArray)).size + aac.1.size ≤ 9223372036854775807 then (bJ.l0 k x0 ((x4 ++ (⟨#[32]⟩ : ByteArray)) ++ aac.1) x6) else (none)) else (none)) else (if x4.size + aac.1.size ≤ 9223372036854775807 then (bJ.l0 k x0 (x4 ++ aac.1) x6) else (none)))) else (none)) else (none)) else (none))
end
def bJ.f (k : Nat) (a0 : ByteArray) : Option (ByteArray × Bool) := if (a0.size : Int) > 120 then (some ((⟨#[]⟩ : ByteArray), false)) else ((gQ.f k a0).bind fun arl => (if arl = true then (bJ.l0 k a0 (⟨#[]⟩ : ByteArray) 0) else (some (a0, true))))
theorem bJ.calls {k : Nat} {a0 r1 : ByteArray} {r2 : Bool} {w : World} (h : bJ.f k a0 = some (r1, r2)) :
  Calls Tryz.prog 194 #[.string a0] w fun e w' => e = .returned (.tuple #[.string r1, .bool r2]) ∧ Below w.heap.size w w' := by
 have HB := ak (Below.refl w.heap.size w)
 unfold bJ.f at h; have H := h
 clear h
 replace H := sp H
 rcases H with ⟨c2, H⟩ | ⟨c2, H⟩
 ·
  have oI : decide (120 < (a0.size : Int)) = true := decide_eq_true c2
  have uP : decide (120 < a0.size) = true := decide_eq_true (by omega)
  clear c2
  obtain ⟨rfl, rfl⟩ := s2 H
  go_enter Tryz.func194, Tryz.ntmps194
  go_wp2
  go_ret2
  exact ⟨er, ul HB.out⟩
 ·
  have oI : decide (120 < (a0.size : Int)) = false := decide_eq_false c2
  have uP : decide (120 < a0.size) = false := decide_eq_false (by omega)
  clear c2
  replace H := bd H; obtain ⟨arl, A3, H⟩ := H; replace H := sb H
  rcases H with ⟨rfl, H⟩ | ⟨rfl, H⟩
  ·
   have H' := ak H; clear H
   go_enter Tryz.func194, Tryz.ntmps194
   go_wp2_with (refine gA Tryz.func207 (gQ.calls A3.out) ?_; intro nd)
   go_loopg [4, 5] k (fun kq v4 v5 w' => ∃ (dW : ByteArray) (eH : Int), v4 = .string dW ∧ v5 = .int .i64 eH ∧ ah (bJ.l0 kq a0 dW eH = some (r1, r2)) ∧ ah (kq ≤ k) ∧ ah (Below w.heap.size w w'))
   case atStart => exact ⟨_, _, rs, rs, H', ⟨Nat.le_refl _⟩, ⟨ul HB.out⟩⟩
   case round =>
    clear H'
    try clear c2
    try clear oI
    try clear uP
    obtain ⟨dW, eH, rfl, rfl, HA, xu, HB⟩ := hrel
    cases gk with
    | zero => exact zz HA.out
    | succ k1 =>
     obtain ⟨H⟩ := HA
     simp only [bJ.l0] at H
     replace H := sd H
     rcases H with ⟨nR, H⟩ | ⟨nR, H⟩
     ·
      have H' := ak H; clear H
      go_wp2
      go_loopg [6] k1 (fun kq v6 w' => ∃ (Bc : Int), v6 = .int .i64 Bc ∧ ah (bJ.l1 kq a0 dW eH Bc = some (r1, r2)) ∧ ah (kq ≤ k1) ∧ ah (Below w.heap.size w w'))
      case atStart => exact ⟨_, rs, H', ⟨Nat.le_refl _⟩, ⟨ul HB.out⟩⟩
      case round =>
       clear H'
       try clear c2
       try clear oI
       try clear uP
       try clear nR
       obtain ⟨Bc, rfl, HA, HK2, HB⟩ := hrel
       cases gk with
       | zero => exact zz HA.out
       | succ k2 =>
        obtain ⟨H⟩ := HA
        simp only [bJ.l1] at H
        replace H := sd H
        rcases H with ⟨nT, H⟩ | ⟨nT, H⟩
        ·
         replace H := zK H; obtain ⟨rY, Lc, H⟩ := H; replace H := nn H; obtain ⟨c8, H⟩ := H
         have sH := eq_true c8
         have Ba := decide_eq_true c8
         replace H := nn H; obtain ⟨c9, H⟩ := H
         have xU := eq_true c9
         have EX := decide_eq_true c9
         replace H := bd H; obtain ⟨ag6, U5, H⟩ := H; replace H := sp H
         rcases H with ⟨c11, H⟩ | ⟨c11, H⟩
         ·
          have uH := decide_eq_true c11
          have Ec : decide (ag6.size ≤ 28) = true := decide_eq_true (by omega)
          clear c11
          have H' := ak H; clear H
          go_wp2_with (go_at_call 208; refine mB (jE.calls U5.out) ?_; intro w12 hb; replace HB := bs HB hb; clear hb)
          go_roundg k2
          case measure => exact kl
          case rel => exact ⟨_, rs, H', ⟨kl⟩, ⟨ul HB.out⟩⟩
         ·
          have uH := decide_eq_false c11
          have Ec : decide (ag6.size ≤ 28) = false := decide_eq_false (by omega)
          clear c11
          have vS := eq_true (of_decide_eq_true (by assumption) : 0 ≤ eH)
          replace H := zK H; obtain ⟨tu, xA, H⟩ := H; replace H := zK H; obtain ⟨vT, ES, H⟩ := H; replace H := bd H
          obtain ⟨⟨ag7, aES⟩, A16, H⟩ := H
          (try dsimp only at H)
          replace H := sp H
          rcases H with ⟨c17, H⟩ | ⟨c17, H⟩
          ·
           have tq : decide (0 < eH) = true := decide_eq_true c17
           clear c17
           replace H := nn H; obtain ⟨c18, H⟩ := H
           have zC := eq_true c18
           have OT := decide_eq_true c18
           try have aiB : (9223372036854775807 < dW.size + 1) = False := eq_false (Nat.not_lt.2 c18)
           replace H := nn H; obtain ⟨c19, H⟩ := H
           have z_ := eq_true c19
           have Ea := decide_eq_true c19
           try have aBe : (9223372036854775807 < dW.size + 1 + ag7.size) = False := by have h_ := (eq_false (Nat.not_lt.2 c19) : (9223372036854775807 < (dW ++ (⟨#[32]⟩ : ByteArray)).size + ag7.size) = False); simp only [ByteArray.size_append] at h_; exact h_
           try have ajp : (9223372036854775807 < (dW ++ (⟨#[32]⟩ : ByteArray)).size + ag7.size) = False := eq_false (Nat.not_lt.2 c19)
           have H' := ak H; clear H
           go_wp2_with (first | (go_at_call 208; refine mB (jE.calls U5.out) ?_; intro w20 hb; replace HB := bs HB hb; clear hb) | (refine gB Tryz.func209 (iM.calls A16.out) ?_; intro w21 hb; replace HB := bs HB hb; clear hb))
           go_roundg k2
           case measure => exact kl
           case rel => exact ⟨_, _, rs, rs, H', ⟨kl⟩, ⟨ul HB.out⟩⟩
          ·
           have tq : decide (0 < eH) = false := decide_eq_false c17
           clear c17
           replace H := nn H; obtain ⟨c22, H⟩ := H
           have EW := eq_true c22
           have YS := decide_eq_true c22
           try have aBf : (9223372036854775807 < dW.size + ag7.size) = False := eq_false (Nat.not_lt.2 c22)
           have H' := ak H; clear H
           go_wp2_with (first | (go_at_call 208; refine mB (jE.calls U5.out) ?_; intro w23 hb; replace HB := bs HB hb; clear hb) | (refine gB Tryz.func209 (iM.calls A16.out) ?_; intro w24 hb; replace HB := bs HB hb; clear hb))
           go_roundg k2
           case measure => exact kl
           case rel => exact ⟨_, _, rs, rs, H', ⟨kl⟩, ⟨ul HB.out⟩⟩
        ·
         replace H := zK H; obtain ⟨OW, ac_, H⟩ := H; replace H := zK H; obtain ⟨MK, YW, H⟩ := H; replace H := zK H; obtain ⟨EO, YX, H⟩ := H; replace H := bd H
         obtain ⟨⟨ag8, aET⟩, A28, H⟩ := H
         (try dsimp only at H)
         replace H := sp H
         rcases H with ⟨c29, H⟩ | ⟨c29, H⟩
         ·
          have ZG : decide (0 < eH) = true := decide_eq_true c29
          clear c29
          replace H := nn H; obtain ⟨c30, H⟩ := H
          have Y0 := eq_true c30
          have aBg := decide_eq_true c30
          try have aBh : (9223372036854775807 < dW.size + 1) = False := eq_false (Nat.not_lt.2 c30)
          replace H := nn H; obtain ⟨c31, H⟩ := H
          have adh := eq_true c31
          have adi := decide_eq_true c31
          try have aBi : (9223372036854775807 < dW.size + 1 + ag8.size) = False := by have h_ := (eq_false (Nat.not_lt.2 c31) : (9223372036854775807 < (dW ++ (⟨#[32]⟩ : ByteArray)).size + ag8.size) = False); simp only [ByteArray.size_append] at h_; exact h_
          try have aBj : (9223372036854775807 < (dW ++ (⟨#[32]⟩ : ByteArray)).size + ag8.size) = False := eq_false (Nat.not_lt.2 c31)
          have H' := ak H; clear H
          go_wp2_with (refine gB Tryz.func209 (iM.calls A28.out) ?_; intro w32 hb; replace HB := bs HB hb; clear hb)
          go_roundg k2
          case measure => exact kl
          case rel => exact ⟨_, _, rs, rs, H', ⟨kl⟩, ⟨ul HB.out⟩⟩
         ·
          have ZG : decide (0 < eH) = false := decide_eq_false c29
          clear c29
          replace H := nn H; obtain ⟨c33, H⟩ := H
          have Ri := eq_true c33
          have ac7 := decide_eq_true c33
          try have aBk : (9223372036854775807 < dW.size + ag8.size) = False := eq_false (Nat.not_lt.2 c33)
          have H' := ak H; clear H
          go_wp2_with (refine gB Tryz.func209 (iM.calls A28.out) ?_; intro w34 hb; replace HB := bs HB hb; clear hb)
          go_roundg k2
          case measure => exact kl
          case rel => exact ⟨_, _, rs, rs, H', ⟨kl⟩, ⟨ul HB.out⟩⟩
     ·
      obtain ⟨rfl, rfl⟩ := s2 H
      go_wp2
      go_ret2
      exact ⟨er, ul HB.out⟩
  ·
   obtain ⟨rfl, rfl⟩ := s2 H
   go_enter Tryz.func194, Tryz.ntmps194
   go_wp2_with (refine gA Tryz.func207 (gQ.calls A3.out) ?_; intro nd)
   go_ret2
   exact ⟨er, ul HB.out⟩
def jP.l0 : Nat → ByteArray → Int → List ByteArray → Int → Int → Option (List ByteArray)
 | 0, _, _, _, _, _ => none
 | k + 1, x0, x1, x5, x6, x7 => if x7 < (x0.size : Int) then (if 0 ≤ x7 then (if (bt x0 x7) = x1 then (if 0 ≤ x6 then (if x6 ≤ x7 then (if x7 ≤ (x0.size : Int) then (if x5.length < 8796093022208 then (jP.l0 k x0 x1 (x5 ++ [x0.extract (x6 : Int).toNat (x7 : Int).toNat]) (wrap64 (x7 + 1)) (wrap64 (x7 + 1))) else (none)) else (none)) else (none)) else (none)) else (jP.l0 k x0 x1 x5 x6 (wrap64 (x7 + 1)))) else (none)) else (if 0 ≤ x6 then (if x6 ≤ (x0.size : Int) then (if x5.length < 8796093022208 then (some (x5 ++ [x0.extract (x6 : Int).toNat x0.size])) else (none)) else (none)) else (none))
def jP.f (k : Nat) (a0 : ByteArray) (a1 : Int) : Option (List ByteArray) := jP.l0 k a0 a1 (([] : List ByteArray)) 0 0
theorem jP.calls {k : Nat} {a0 : ByteArray} {a1 : Int} {r : List ByteArray} {w : World} (h : jP.f k a0 a1 = some r) :
  Calls Tryz.prog 217 #[.string a0, .int .u8 a1] w fun e w' => ∃ qj : Value, e = .returned (qj) ∧ Kd.R Kd.string 9 w' w.heap.size (fun _ => True) qj r ∧ Below w.heap.size w w' := by
 have HB := ak (Below.refl w.heap.size w)
 unfold jP.f at h; have H := h
 clear h
 obtain ⟨aEU, ajq⟩ := nm ([] : List ByteArray)
 rw [← ajq.out] at H
 have H' := ak H; clear H
 go_enter Tryz.func217, Tryz.ntmps217
 go_wp2_with (refine GN 8 Kd.string 9 ajq ?_; intro aEV w3 Rl hb; have arn := ak (Kd.aA Rl (aj (ul HB.out))); replace HB := bs HB hb; clear hb Rl)
 go_loopg [5, 6, 7] k (fun kq v5 v6 v7 w' => ∃ (eH : List ByteArray) (jH : Int) (rH : Int), v6 = .int .i64 jH ∧ v7 = .int .i64 rH ∧ ah (jP.l0 kq a0 a1 eH jH rH = some r) ∧ ah (kq ≤ k) ∧ ah (Kd.R Kd.string 9 w' w.heap.size (fun _ => True) v5 eH) ∧ ah (Below w.heap.size w w'))
 case atStart => exact ⟨_, _, _, rs, rs, H', ⟨Nat.le_refl _⟩, ⟨ur arn.out⟩, ⟨ul HB.out⟩⟩
 case round =>
  clear H'
  obtain ⟨eH, jH, rH, rfl, rfl, HA, xu, qp, HB⟩ := hrel
  cases gk with
  | zero => exact zz HA.out
  | succ k1 =>
   obtain ⟨H⟩ := HA
   simp only [jP.l0] at H
   replace H := sd H
   rcases H with ⟨nR, H⟩ | ⟨nR, H⟩
   ·
    replace H := oM H; obtain ⟨nT, H⟩ := H; replace H := sq H
    rcases H with ⟨sH, Ba, H⟩ | ⟨c8, sH, Ba, H⟩
    ·
     replace H := zK H; obtain ⟨xU, EX, H⟩ := H; replace H := zK H; obtain ⟨oC, sK, H⟩ := H; replace H := zK H; obtain ⟨uH, Ec, H⟩ := H; replace H := nl H; obtain ⟨VK, H⟩ := H
     obtain ⟨aEW, ajr⟩ := nm (eH ++ [a0.extract (jH : Int).toNat (rH : Int).toNat])
     rw [← ajr.out] at H
     have H' := ak H; clear H
     obtain ⟨p7, q7, hx7⟩ := bx a0 rH
     go_wp2_with (at_builtin; refine aP 20 25 Kd.string 23 9 (.string ⟨#[]⟩) 16 Tryz.underlying23 info9 HB (ur qp.out) ajr (by have := VK.out; omega) ?_; intro aEX w13 ho hb hg hat; have aro := ak (ho); replace HB := ak (hb); clear ho hb hg hat qp)
     go_roundg k1
     case measure => exact kl
     case rel => exact ⟨_, _, _, rs, rs, H', ⟨kl⟩, ⟨ur aro.out⟩, ⟨ul HB.out⟩⟩
    ·
     have H' := ak H; clear H
     obtain ⟨p7, q7, hx7⟩ := bx a0 rH
     go_wp2
     go_roundg k1
     case measure => exact kl
     case rel => exact ⟨_, _, _, rs, rs, H', ⟨kl⟩, ⟨ur qp.out⟩, ⟨ul HB.out⟩⟩
   ·
    replace H := zK H; obtain ⟨tu, xA, H⟩ := H; replace H := zK H; obtain ⟨vT, ES, H⟩ := H; replace H := nl H; obtain ⟨adN, H⟩ := H
    obtain ⟨aEY, ajs⟩ := nm (eH ++ [a0.extract (jH : Int).toNat a0.size])
    rw [← ajs.out] at H
    obtain rfl := s1 H
    go_wp2_with (at_builtin; refine aP 29 33 Kd.string 23 9 (.string ⟨#[]⟩) 16 Tryz.underlying23 info9 HB (ur qp.out) ajs (by have := adN.out; omega) ?_; intro aEZ w17 ho hb hg hat; have arp := ak (ho); replace HB := ak (hb); clear ho hb hg hat qp)
    go_ret
    exact ⟨_, er, ur arp.out, ul HB.out⟩
def iO.l0 : Nat → ByteArray → List ByteArray → Int → Option (List ByteArray × Bool)
 | 0, _, _, _ => none
 | k + 1, x0, x4, x5 => if x5 < (x4.length : Int) then (if 0 ≤ x5 then (if ((o8 ByteArray.empty x4 x5).size : Int) > 40 then (some ((([] : List ByteArray)), false)) else ((aQ.f k (o8 ByteArray.empty x4 x5)).bind fun arq => (if arq = true then (iO.l0 k x0 x4 (wrap64 (x5 + 1))) else (some ((([] : List ByteArray)), false))))) else (none)) else (some (x4, decide ((x0.size : Int) ≤ 300)))
def iO.f (k : Nat) (a0 : ByteArray) : Option (List ByteArray × Bool) := (jP.f k a0 10).bind fun Ll => (iO.l0 k a0 Ll 0)
theorem iO.calls {k : Nat} {a0 : ByteArray} {r1 : List ByteArray} {r2 : Bool} {w : World} (h : iO.f k a0 = some (r1, r2)) :
  Calls Tryz.prog 210 #[.string a0] w fun e w' => ∃ qj : Value, e = .returned (.tuple #[qj, .bool r2]) ∧ Kd.R Kd.string 9 w' w.heap.size (fun _ => True) qj r1 ∧ Below w.heap.size w w' := by
 have HB := ak (Below.refl w.heap.size w)
 unfold iO.f at h; have H := h
 clear h
 replace H := bd H; obtain ⟨Ll, A2, H⟩ := H
 have H' := ak H; clear H
 go_enter Tryz.func210, Tryz.ntmps210
 go_wp2_with (refine gV Tryz.func217 (jP.calls A2.out) ?_; rintro ax_ w3 ⟨ho0, hb⟩; have ars := ak (Kd.aA ho0 (aj (ul HB.out))); replace HB := bs HB hb; clear hb; (try clear ho0))
 go_loopg [5] k (fun kq v5 w' => ∃ (eH : Int), v5 = .int .i64 eH ∧ ah (iO.l0 kq a0 Ll eH = some (r1, r2)) ∧ ah (kq ≤ k) ∧ ah (Kd.R Kd.string 9 w' w.heap.size (fun _ => True) ax_ Ll) ∧ ah (Below w.heap.size w w'))
 case atStart => exact ⟨_, rs, H', ⟨Nat.le_refl _⟩, ⟨ur ars.out⟩, ⟨ul HB.out⟩⟩
 case round =>
  clear H'
  obtain ⟨eH, rfl, HA, xu, iP, HB⟩ := hrel
  cases gk with
  | zero => exact zz HA.out
  | succ k1 =>
   obtain ⟨H⟩ := HA
   simp only [iO.l0] at H
   replace H := sd H
   rcases H with ⟨rX, H⟩ | ⟨rX, H⟩
   ·
    replace H := oM H; obtain ⟨nR, H⟩ := H; replace H := sp H
    rcases H with ⟨c6, H⟩ | ⟨c6, H⟩
    ·
     have nT : decide (40 < ((o8 ByteArray.empty Ll eH).size : Int)) = true := decide_eq_true c6
     have wF : decide (40 < (o8 ByteArray.empty Ll eH).size) = true := decide_eq_true (by omega)
     clear c6
     obtain ⟨aE0, ajt⟩ := nm ([] : List ByteArray)
     rw [← ajt.out] at H
     obtain ⟨rfl, rfl⟩ := s2 H
     obtain ⟨Ao7, co7, eo7⟩ := Kd.aN iP.out
     subst eo7
     have Pn := zi eH
     have Po := zj eH Ll.length
     obtain ⟨aad, adO, aae⟩ := Kd.kF (Kd.au iP.out).2.2 eH Pn Po
     cases adO
     replace Pn := eq_true Pn
     replace Po := eq_true Po
     go_wp2_with (refine GN 28 Kd.string 9 ajt ?_; intro aE1 w8 ho9 hb; have aru := ak (Kd.aA (Kd.gU ho9 (Kd.kX (ur iP.out))) (aj (ul HB.out))); replace iP := ak (Kd.fV (ur iP.out) (Kd.fQ ho9) hb); replace HB := bs HB hb; clear hb ho9)
     go_ret2
     exact ⟨_, er, ur (Kd.aZ aru.out (fun _ hk => trivial)), ul HB.out⟩
    ·
     have nT : decide (40 < ((o8 ByteArray.empty Ll eH).size : Int)) = false := decide_eq_false c6
     have wF : decide (40 < (o8 ByteArray.empty Ll eH).size) = false := decide_eq_false (by omega)
     clear c6
     replace H := bd H; obtain ⟨arq, U5, H⟩ := H; replace H := sb H
     rcases H with ⟨rfl, H⟩ | ⟨rfl, H⟩
     ·
      have H' := ak H; clear H
      obtain ⟨EL, Ey, SQ⟩ := Kd.aN iP.out
      subst SQ
      have Pn := zi eH
      have Po := zj eH Ll.length
      obtain ⟨aad, adO, aae⟩ := Kd.kF (Kd.au iP.out).2.2 eH Pn Po
      cases adO
      replace Pn := eq_true Pn
      replace Po := eq_true Po
      have XG := zi eH
      have XH := zj eH Ll.length
      obtain ⟨adP, amX, ag9⟩ := Kd.kF (Kd.au iP.out).2.2 eH XG XH
      obtain rfl : aad = adP := (by injection amX)
      replace XG := eq_true XG
      replace XH := eq_true XH
      go_wp2_with (go_at_call 159; refine mA (aQ.calls U5.out) ?_; intro nd)
      go_roundg k1
      case measure => exact kl
      case rel => exact ⟨_, rs, H', ⟨kl⟩, ⟨ur iP.out⟩, ⟨ul HB.out⟩⟩
     ·
      obtain ⟨aE2, aju⟩ := nm ([] : List ByteArray)
      rw [← aju.out] at H
      obtain ⟨rfl, rfl⟩ := s2 H
      obtain ⟨NH, CO, OL⟩ := Kd.aN iP.out
      subst OL
      have Pn := zi eH
      have Po := zj eH Ll.length
      obtain ⟨aad, adO, aae⟩ := Kd.kF (Kd.au iP.out).2.2 eH Pn Po
      cases adO
      replace Pn := eq_true Pn
      replace Po := eq_true Po
      have XG := zi eH
      have XH := zj eH Ll.length
      obtain ⟨adP, amX, ag9⟩ := Kd.kF (Kd.au iP.out).2.2 eH XG XH
      obtain rfl : aad = adP := (by injection amX)
      replace XG := eq_true XG
      replace XH := eq_true XH
      go_wp2_with (first | (go_at_call 159; refine mA (aQ.calls U5.out) ?_; intro nd) | (refine GN 28 Kd.string 9 aju ?_; intro aE3 Q8 NC hb; have arv := ak (Kd.aA (Kd.gU NC (Kd.kX (ur iP.out))) (aj (ul HB.out))); replace iP := ak (Kd.fV (ur iP.out) (Kd.fQ NC) hb); replace HB := bs HB hb; clear hb NC))
      go_ret2
      exact ⟨_, er, ur (Kd.aZ arv.out (fun _ hk => trivial)), ul HB.out⟩
   ·
    obtain ⟨rfl, rfl⟩ := s2 H
    obtain ⟨VI, VJ, TV⟩ := Kd.aN iP.out
    subst TV
    go_wp2
    go_ret2
    exact ⟨_, er, ur iP.out, ul HB.out⟩
end Go.Proofs.YtncdadcmghglkaaGreatDoor.PFnCountParts
