/- Printed walks; conditions: those in each statement. -/
import Derived.Test.YtncdadcmghglkaaGreatDoorVFnKidValidQt
import Derived.Test.YtncdadcmghglkaaGreatDoorVFnKidValidYt
import Derived.Test.YtncdadcmghglkaaGreatDoorPFnKidValidx0
import Derived.Test.YtncdadcmghglkaaGreatDoorPFnKidValidx11
import Derived.Test.YtncdadcmghglkaaGreatDoorPFnKidValidx20
-- short
-- dense
-- sq
-- sq2
namespace Go.Proofs.YtncdadcmghglkaaGreatDoor.PFnKidValid
open Go.RowKit Go.Proofs.YtncdadcmghglkaaGreatDoor.X Go.Proofs.YtncdadcmghglkaaGreatDoorW.bI Go.Proofs.YtncdadcmghglkaaGreatDoorW.gq Go.Proofs.YtncdadcmghglkaaGreatDoorW.iJ
attribute [local go_sem] kJ kK mD mF jv jw kL kM   -- for this text's walks alone
set_option linter.unusedVariables false
set_option maxHeartbeats 8000000
set_option maxRecDepth 100000
set_option linter.unusedSimpArgs false
def wW.f (a0 : Int) : Option (ByteArray) := if a0 = 32 then (some (⟨#[95]⟩ : ByteArray)) else ((gI.f a0).bind fun asy => (if asy = true then (some (strOfNums (([a0] : List Int)))) else (if a0 = 45 then (some (strOfNums (([a0] : List Int)))) else (if a0 = 46 then (some (strOfNums (([a0] : List Int)))) else ((lH.f a0).bind fun asz => (some asz))))))
theorem wW.calls {a0 : Int} {r : ByteArray} {w : World} (h : wW.f a0 = some r) :
  Calls Tryz.prog 216 #[.int .u8 a0] w fun e w' => e = .returned (.string r) ∧ Below w.heap.size w w' := by
 have HB := ak (Below.refl w.heap.size w)
 unfold wW.f at h; have H := h
 clear h
 replace H := sq H
 rcases H with ⟨nT, uF, H⟩ | ⟨c2, nT, uF, H⟩
 ·
  obtain rfl := s1 H
  go_enter Tryz.func216, Tryz.ntmps216
  go_wp2
  go_ret
  exact ⟨er, ul HB.out⟩
 ·
  replace H := bd H; obtain ⟨asy, A3, H⟩ := H; replace H := sb H
  rcases H with ⟨rfl, H⟩ | ⟨rfl, H⟩
  ·
   obtain ⟨aGf, akj⟩ := nm ([a0] : List Int)
   rw [← akj.out] at H
   obtain rfl := s1 H
   go_enter Tryz.func216, Tryz.ntmps216
   go_wp2_with (first | (refine gA Tryz.func183 (gI.calls A3.out) ?_; intro nd) | (refine RF 16 (Kd.int .u8) 5 [.int .u8 a0] akj (dD.one (show Kd.M (Kd.int .u8) _ _ _ a0 [.int .u8 a0] from rfl) (dD.none _ _)) ?_; intro aGg w5 ho6 hb; have asA := ak (Kd.aC ho6 (aj (ul HB.out))); replace HB := bs HB hb; clear hb ho6; have aGh := qJ (P := Tryz.prog) Tryz.underlying22 Tryz.underlying5 Tryz.underlying9 (Kd.uX asA.out)))
   go_ret
   exact ⟨er, ul HB.out⟩
  ·
   replace H := sq H
   rcases H with ⟨tu, Dl, H⟩ | ⟨c8, tu, Dl, H⟩
   ·
    obtain ⟨aGi, akk⟩ := nm ([a0] : List Int)
    rw [← akk.out] at H
    obtain rfl := s1 H
    go_enter Tryz.func216, Tryz.ntmps216
    go_wp2_with (first | (refine gA Tryz.func183 (gI.calls A3.out) ?_; intro nd) | (refine RF 16 (Kd.int .u8) 5 [.int .u8 a0] akk (dD.one (show Kd.M (Kd.int .u8) _ _ _ a0 [.int .u8 a0] from rfl) (dD.none _ _)) ?_; intro aGj w9 OA hb; have asB := ak (Kd.aC OA (aj (ul HB.out))); replace HB := bs HB hb; clear hb OA; have asC := qJ (P := Tryz.prog) Tryz.underlying22 Tryz.underlying5 Tryz.underlying9 (Kd.uX asB.out)))
    go_ret
    exact ⟨er, ul HB.out⟩
   ·
    replace H := sq H
    rcases H with ⟨xI, Dn, H⟩ | ⟨c12, xI, Dn, H⟩
    ·
     obtain ⟨aGk, akl⟩ := nm ([a0] : List Int)
     rw [← akl.out] at H
     obtain rfl := s1 H
     go_enter Tryz.func216, Tryz.ntmps216
     go_wp2_with (first | (refine gA Tryz.func183 (gI.calls A3.out) ?_; intro nd) | (refine RF 16 (Kd.int .u8) 5 [.int .u8 a0] akl (dD.one (show Kd.M (Kd.int .u8) _ _ _ a0 [.int .u8 a0] from rfl) (dD.none _ _)) ?_; intro aGl w13 aek hb; have asD := ak (Kd.aC aek (aj (ul HB.out))); replace HB := bs HB hb; clear hb aek; have asE := qJ (P := Tryz.prog) Tryz.underlying22 Tryz.underlying5 Tryz.underlying9 (Kd.uX asD.out)))
     go_ret
     exact ⟨er, ul HB.out⟩
    ·
     replace H := bd H; obtain ⟨asz, A16, H⟩ := H
     obtain rfl := s1 H
     go_enter Tryz.func216, Tryz.ntmps216
     go_wp2_with (first | (refine gA Tryz.func183 (gI.calls A3.out) ?_; intro nd) | (refine gA Tryz.func221 (lH.calls A16.out) ?_; intro nd))
     go_ret
     exact ⟨er, ul HB.out⟩
def jA.l0 : Nat → ByteArray → ByteArray → Int → Option (ByteArray)
 | 0, _, _, _ => none
 | k + 1, x0, x3, x4 => if x4 < (x0.size : Int) then (if 0 ≤ x4 then ((wW.f (bt x0 x4)).bind fun ahV => (if x3.size + ahV.size ≤ 9223372036854775807 then (jA.l0 k x0 (x3 ++ ahV) (wrap64 (x4 + 1))) else (none))) else (none)) else (some x3)
def jA.f (k : Nat) (a0 : ByteArray) : Option (ByteArray) := jA.l0 k a0 (⟨#[]⟩ : ByteArray) 0
theorem jA.calls {k : Nat} {a0 r : ByteArray} {w : World} (h : jA.f k a0 = some r) :
  Calls Tryz.prog 208 #[.string a0] w fun e w' => e = .returned (.string r) ∧ Below w.heap.size w w' := by
 have HB := ak (Below.refl w.heap.size w)
 unfold jA.f at h; have H := h
 clear h
 have H' := ak H; clear H
 go_enter Tryz.func208, Tryz.ntmps208
 go_wp2
 go_loopg [3, 4] k (fun kq v3 v4 w' => ∃ (dM : ByteArray) (dV : Int), v3 = .string dM ∧ v4 = .int .i64 dV ∧ ah (jA.l0 kq a0 dM dV = some r) ∧ ah (kq ≤ k) ∧ ah (Below w.heap.size w w'))
 case atStart => exact ⟨_, _, rs, rs, H', ⟨Nat.le_refl _⟩, ⟨ul HB.out⟩⟩
 case round =>
  clear H'
  obtain ⟨dM, dV, rfl, rfl, HA, xG, HB⟩ := hrel
  cases gk with
  | zero => exact zz HA.out
  | succ k1 =>
   obtain ⟨H⟩ := HA
   simp only [jA.l0] at H
   replace H := sd H
   rcases H with ⟨nT, H⟩ | ⟨nT, H⟩
   ·
    replace H := oL H; obtain ⟨iO, H⟩ := H; replace H := bd H; obtain ⟨ahV, A5, H⟩ := H; replace H := nn H; obtain ⟨c6, H⟩ := H
    have oz := eq_true c6
    have xH := decide_eq_true c6
    try have ahd : (9223372036854775807 < dM.size + ahV.size) = False := eq_false (Nat.not_lt.2 c6)
    have H' := ak H; clear H
    obtain ⟨p4, q4, hx4⟩ := bx a0 dV
    go_wp2_with (refine gB Tryz.func216 (wW.calls A5.out) ?_; intro w7 hb; replace HB := bs HB hb; clear hb)
    go_roundg k1
    case measure => exact kl
    case rel => exact ⟨_, _, rs, rs, H', ⟨kl⟩, ⟨ul HB.out⟩⟩
   ·
    obtain rfl := s1 H
    go_wp2
    go_ret
    exact ⟨er, ul HB.out⟩
def iK.j0 : Nat → ByteArray → Bool → Option (ByteArray × Bool)
 | 0, _, _ => none
 | k + 1, x0, x12 => if x12 = true then (some ((⟨#[]⟩ : ByteArray), false)) else ((jA.f k x0).bind fun zG => (if 10 + zG.size ≤ 9223372036854775807 then (if ((⟨#[61, 63, 117, 116, 102, 45, 56, 63, 113, 63]⟩ : ByteArray) ++ zG).size + 2 ≤ 9223372036854775807 then (if ((((⟨#[61, 63, 117, 116, 102, 45, 56, 63, 113, 63]⟩ : ByteArray) ++ zG) ++ (⟨#[63, 61]⟩ : ByteArray)).size : Int) > 40 then (some ((⟨#[]⟩ : ByteArray), false)) else (some (((⟨#[61, 63, 117, 116, 102, 45, 56, 63, 113, 63]⟩ : ByteArray) ++ zG) ++ (⟨#[63, 61]⟩ : ByteArray), true))) else (none)) else (none)))
def iK.f (k : Nat) (a0 : ByteArray) : Option (ByteArray × Bool) := if (a0.size : Int) < 1 then (iK.j0 k a0 true) else (iK.j0 k a0 (decide ((a0.size : Int) > 40)))
theorem iK.calls {k : Nat} {a0 r1 : ByteArray} {r2 : Bool} {w : World} (h : iK.f k a0 = some (r1, r2)) :
  Calls Tryz.prog 209 #[.string a0] w fun e w' => e = .returned (.tuple #[.string r1, .bool r2]) ∧ Below w.heap.size w w' := by
 have HB := ak (Below.refl w.heap.size w)
 unfold iK.f at h; have H := h
 clear h
 have HC2 := ak H
 clear H
 go_enter Tryz.func209, Tryz.ntmps209
 go_upto_region 1 with (fail)
 go_cut [12] (fun v12 wc => ∃ (kq : Nat) (ael : Bool), v12 = .bool ael ∧ ah (iK.j0 kq a0 ael = some (r1, r2)) ∧ ah (kq ≤ k) ∧ ah (Below w.heap.size w wc))
 case first =>
  have H := HC2.out
  clear HC2
  replace H := sp H
  rcases H with ⟨c3, H⟩ | ⟨c3, H⟩
  ·
   have iO := decide_eq_true c3
   have Au : decide (a0.size < 1) = true := decide_eq_true (by omega)
   clear c3
   (first | rw [iO] | (simp only [dP, fG]; rw [iO]) | skip)
   have H' := ak H; clear H
   go_wp2
   go_meet
   case rel => exact ⟨_, _, rs, H', ⟨Jq⟩, ⟨ul HB.out⟩⟩
  ·
   have iO := decide_eq_false c3
   have Au : decide (a0.size < 1) = false := decide_eq_false (by omega)
   clear c3
   (first | rw [iO] | (simp only [dP, fG]; rw [iO]) | skip)
   have H' := ak H; clear H
   go_wp2
   go_meet
   case rel => exact ⟨_, _, rs, H', ⟨Jq⟩, ⟨ul HB.out⟩⟩
 case rest =>
  clear HC2
  obtain ⟨kq, ael, rfl, HA, HJ1, HB⟩ := hcut
  cases kq with
  | zero => exact zz HA.out
  | succ Ox =>
   obtain ⟨H⟩ := HA
   simp only [iK.j0] at H
   replace H := sb H
   rcases H with ⟨rfl, H⟩ | ⟨rfl, H⟩
   ·
    obtain ⟨rfl, rfl⟩ := s2 H
    go_wp2
    go_ret2
    exact ⟨er, ul HB.out⟩
   ·
    replace H := bd H; obtain ⟨zG, A5, H⟩ := H; replace H := nn H; obtain ⟨c6, H⟩ := H
    have oz := eq_true c6
    have xH := decide_eq_true c6
    try have ahd : (9223372036854775807 < 10 + zG.size) = False := eq_false (Nat.not_lt.2 c6)
    replace H := nn H; obtain ⟨c7, H⟩ := H
    have sD := eq_true c7
    have Mc := decide_eq_true c7
    try have aGm : (9223372036854775807 < 10 + zG.size + 2) = False := by have h_ := (eq_false (Nat.not_lt.2 c7) : (9223372036854775807 < ((⟨#[61, 63, 117, 116, 102, 45, 56, 63, 113, 63]⟩ : ByteArray) ++ zG).size + 2) = False); simp only [ByteArray.size_append] at h_; exact h_
    try have azz : (9223372036854775807 < ((⟨#[61, 63, 117, 116, 102, 45, 56, 63, 113, 63]⟩ : ByteArray) ++ zG).size + 2) = False := eq_false (Nat.not_lt.2 c7)
    replace H := sp H
    rcases H with ⟨c8, H⟩ | ⟨c8, H⟩
    ·
     have tu : decide (40 < ((((⟨#[61, 63, 117, 116, 102, 45, 56, 63, 113, 63]⟩ : ByteArray) ++ zG) ++ (⟨#[63, 61]⟩ : ByteArray)).size : Int)) = true := decide_eq_true c8
     have Dl : decide (40 < (((⟨#[61, 63, 117, 116, 102, 45, 56, 63, 113, 63]⟩ : ByteArray) ++ zG) ++ (⟨#[63, 61]⟩ : ByteArray)).size) = true := decide_eq_true (by omega)
     (try (have anw : decide (40 < 10 + (zG.size : Int) + 2) = true := decide_eq_true (by have e0_ : (((⟨#[61, 63, 117, 116, 102, 45, 56, 63, 113, 63]⟩ : ByteArray) ++ zG) ++ (⟨#[63, 61]⟩ : ByteArray)).size = 10 + zG.size + 2 := (by first | (simp only [ByteArray.size_append]; rfl) | simp only [ByteArray.size_append]); omega)))
     (try (have azA : decide (40 < 10 + zG.size + 2) = true := decide_eq_true (by have e0_ : (((⟨#[61, 63, 117, 116, 102, 45, 56, 63, 113, 63]⟩ : ByteArray) ++ zG) ++ (⟨#[63, 61]⟩ : ByteArray)).size = 10 + zG.size + 2 := (by first | (simp only [ByteArray.size_append]; rfl) | simp only [ByteArray.size_append]); omega)))
     clear c8
     obtain ⟨rfl, rfl⟩ := s2 H
     go_wp2_with (refine gB Tryz.func208 (jA.calls A5.out) ?_; intro w9 hb; replace HB := bs HB hb; clear hb)
     go_ret2
     exact ⟨er, ul HB.out⟩
    ·
     have tu : decide (40 < ((((⟨#[61, 63, 117, 116, 102, 45, 56, 63, 113, 63]⟩ : ByteArray) ++ zG) ++ (⟨#[63, 61]⟩ : ByteArray)).size : Int)) = false := decide_eq_false c8
     have Dl : decide (40 < (((⟨#[61, 63, 117, 116, 102, 45, 56, 63, 113, 63]⟩ : ByteArray) ++ zG) ++ (⟨#[63, 61]⟩ : ByteArray)).size) = false := decide_eq_false (by omega)
     (try (have anw : decide (40 < 10 + (zG.size : Int) + 2) = false := decide_eq_false (by have e0_ : (((⟨#[61, 63, 117, 116, 102, 45, 56, 63, 113, 63]⟩ : ByteArray) ++ zG) ++ (⟨#[63, 61]⟩ : ByteArray)).size = 10 + zG.size + 2 := (by first | (simp only [ByteArray.size_append]; rfl) | simp only [ByteArray.size_append]); omega)))
     (try (have azA : decide (40 < 10 + zG.size + 2) = false := decide_eq_false (by have e0_ : (((⟨#[61, 63, 117, 116, 102, 45, 56, 63, 113, 63]⟩ : ByteArray) ++ zG) ++ (⟨#[63, 61]⟩ : ByteArray)).size = 10 + zG.size + 2 := (by first | (simp only [ByteArray.size_append]; rfl) | simp only [ByteArray.size_append]); omega)))
     clear c8
     obtain ⟨rfl, rfl⟩ := s2 H
     go_wp2_with (refine gB Tryz.func208 (jA.calls A5.out) ?_; intro w10 hb; replace HB := bs HB hb; clear hb)
     go_ret2
     exact ⟨er, ul HB.out⟩
mutual
def bK.l0 : Nat → ByteArray → ByteArray → Int → Option (ByteArray × Bool)
 | 0, _, _, _ => none
 | k + 1, x0, x4, x5 => if x5 < (x0.size : Int) then (bK.l1 k x0 x4 x5 (wrap64 (x5 + 1))) else (some (x4, true))
def bK.l1 : Nat → ByteArray → ByteArray → Int → Int → Option (ByteArray × Bool)
 | 0, _, _, _, _ => none
 | k + 1, x0, x4, x5, x6 => if x6 < (x0.size : Int) then (if 0 ≤ x5 then (if x5 ≤ (wrap64 (x6 + 1)) then (if (wrap64 (x6 + 1)) ≤ (x0.size : Int) then ((jA.f k (x0.extract (x5 : Int).toNat ((wrap64 (x6 + 1)) : Int).toNat)).bind fun ahW => (if (ahW.size : Int) ≤ 28 then (bK.l1 k x0 x4 x5 (wrap64 (x6 + 1))) else (if x5 ≤ x6 then (if x6 ≤ (x0.size : Int) then ((iK.f k (x0.extract (x5 : Int).toNat (x6 : Int).toNat)).bind fun aaQ => (if x5 > 0 then (if x4.size + 1 ≤ 9223372036854775807 then (if (x4 ++ (⟨#[32]⟩ : ByteArray)).size + aaQ.1.size ≤ 9223372036854775807 then (bK.l0 k x0 ((x4 ++ (⟨#[32]⟩ : ByteArray)) ++ aaQ.1) x6) else (none)) else (none)) else (if x4.size + aaQ.1.size ≤ 9223372036854775807 then (bK.l0 k x0 (x4 ++ aaQ.1) x6) else (none)))) else (none)) else (none)))) else (none)) else (none)) else (none)) else (if 0 ≤ x5 then (if x5 ≤ x6 then (if x6 ≤ (x0.size : Int) then ((iK.f k (x0.extract (x5 : Int).toNat (x6 : Int).toNat)).bind fun aaR => (if x5 > 0 then (if x4.size + 1 ≤ 9223372036854775807 then (if (x4 ++ (⟨#[32]⟩ : ByteArray)).size + aaR.1.size ≤ 9223372036854775807 then (bK.l0 k x0 ((x4 ++ (⟨#[32]⟩ : ByteArray)) ++ aaR.1) x6) else (none)) else (none)) else (if x4.size + aaR.1.size ≤ 9223372036854775807 then (bK.l0 k x0 (x4 ++ aaR.1) x6) else (none)))) else (none)) else (none)) else (none))
end
def bK.f (k : Nat) (a0 : ByteArray) : Option (ByteArray × Bool) := if (a0.size : Int) > 120 then (some ((⟨#[]⟩ : ByteArray), false)) else ((gJ.f k a0).bind fun asF => (if asF = true then (bK.l0 k a0 (⟨#[]⟩ : ByteArray) 0) else (some (a0, true))))
theorem bK.calls {k : Nat} {a0 r1 : ByteArray} {r2 : Bool} {w : World} (h : bK.f k a0 = some (r1, r2)) :
  Calls Tryz.prog 194 #[.string a0] w fun e w' => e = .returned (.tuple #[.string r1, .bool r2]) ∧ Below w.heap.size w w' := by
 have HB := ak (Below.refl w.heap.size w)
 unfold bK.f at h; have H := h
 clear h
 replace H := sp H
 rcases H with ⟨c2, H⟩ | ⟨c2, H⟩
 ·
  have nT : decide (120 < (a0.size : Int)) = true := decide_eq_true c2
  have uF : decide (120 < a0.size) = true := decide_eq_true (by omega)
  clear c2
  obtain ⟨rfl, rfl⟩ := s2 H
  go_enter Tryz.func194, Tryz.ntmps194
  go_wp2
  go_ret2
  exact ⟨er, ul HB.out⟩
 ·
  have nT : decide (120 < (a0.size : Int)) = false := decide_eq_false c2
  have uF : decide (120 < a0.size) = false := decide_eq_false (by omega)
  clear c2
  replace H := bd H; obtain ⟨asF, A3, H⟩ := H; replace H := sb H
  rcases H with ⟨rfl, H⟩ | ⟨rfl, H⟩
  ·
   have H' := ak H; clear H
   go_enter Tryz.func194, Tryz.ntmps194
   go_wp2_with (refine gA Tryz.func207 (gJ.calls A3.out) ?_; intro nd)
   go_loopg [4, 5] k (fun kq v4 v5 w' => ∃ (dV : ByteArray) (eP : Int), v4 = .string dV ∧ v5 = .int .i64 eP ∧ ah (bK.l0 kq a0 dV eP = some (r1, r2)) ∧ ah (kq ≤ k) ∧ ah (Below w.heap.size w w'))
   case atStart => exact ⟨_, _, rs, rs, H', ⟨Nat.le_refl _⟩, ⟨ul HB.out⟩⟩
   case round =>
    clear H'
    try clear c2
    try clear nT
    try clear uF
    obtain ⟨dV, eP, rfl, rfl, HA, xG, HB⟩ := hrel
    cases gk with
    | zero => exact zz HA.out
    | succ k1 =>
     obtain ⟨H⟩ := HA
     simp only [bK.l0] at H
     replace H := sd H
     rcases H with ⟨nO, H⟩ | ⟨nO, H⟩
     ·
      have H' := ak H; clear H
      go_wp2
      go_loopg [6] k1 (fun kq v6 w' => ∃ (qL : Int), v6 = .int .i64 qL ∧ ah (bK.l1 kq a0 dV eP qL = some (r1, r2)) ∧ ah (kq ≤ k1) ∧ ah (Below w.heap.size w w'))
      case atStart => exact ⟨_, rs, H', ⟨Nat.le_refl _⟩, ⟨ul HB.out⟩⟩
      case round =>
       clear H'
       try clear c2
       try clear nT
       try clear uF
       try clear nO
       obtain ⟨qL, rfl, HA, Zw, HB⟩ := hrel
       cases gk with
       | zero => exact zz HA.out
       | succ k2 =>
        obtain ⟨H⟩ := HA
        simp only [bK.l1] at H
        replace H := sd H
        rcases H with ⟨oz, H⟩ | ⟨oz, H⟩
        ·
         replace H := Ac H; obtain ⟨sD, Mc, H⟩ := H; replace H := nn H; obtain ⟨c8, H⟩ := H
         have tu := eq_true c8
         have Dl := decide_eq_true c8
         replace H := nn H; obtain ⟨c9, H⟩ := H
         have yh := eq_true c9
         have Fz := decide_eq_true c9
         replace H := bd H; obtain ⟨ahW, VN, H⟩ := H; replace H := sp H
         rcases H with ⟨c11, H⟩ | ⟨c11, H⟩
         ·
          have uH := decide_eq_true c11
          have EC : decide (ahW.size ≤ 28) = true := decide_eq_true (by omega)
          clear c11
          have H' := ak H; clear H
          go_wp2_with (go_at_call 208; refine mB (jA.calls VN.out) ?_; intro w12 hb; replace HB := bs HB hb; clear hb)
          go_roundg k2
          case measure => exact kl
          case rel => exact ⟨_, rs, H', ⟨kl⟩, ⟨ul HB.out⟩⟩
         ·
          have uH := decide_eq_false c11
          have EC : decide (ahW.size ≤ 28) = false := decide_eq_false (by omega)
          clear c11
          have wo := eq_true (of_decide_eq_true (by assumption) : 0 ≤ eP)
          replace H := Ac H; obtain ⟨qC, wI, H⟩ := H; replace H := Ac H; obtain ⟨wu, Fj, H⟩ := H; replace H := bd H
          obtain ⟨⟨ahX, aGn⟩, A16, H⟩ := H
          (try dsimp only at H)
          replace H := sp H
          rcases H with ⟨c17, H⟩ | ⟨c17, H⟩
          ·
           have tJ : decide (0 < eP) = true := decide_eq_true c17
           clear c17
           replace H := nn H; obtain ⟨c18, H⟩ := H
           have zV := eq_true c18
           have PO := decide_eq_true c18
           try have ajw : (9223372036854775807 < dV.size + 1) = False := eq_false (Nat.not_lt.2 c18)
           replace H := nn H; obtain ⟨c19, H⟩ := H
           have Aw := eq_true c19
           have Ew := decide_eq_true c19
           try have aCF : (9223372036854775807 < dV.size + 1 + ahX.size) = False := by have h_ := (eq_false (Nat.not_lt.2 c19) : (9223372036854775807 < (dV ++ (⟨#[32]⟩ : ByteArray)).size + ahX.size) = False); simp only [ByteArray.size_append] at h_; exact h_
           try have akm : (9223372036854775807 < (dV ++ (⟨#[32]⟩ : ByteArray)).size + ahX.size) = False := eq_false (Nat.not_lt.2 c19)
           have H' := ak H; clear H
           go_wp2_with (first | (go_at_call 208; refine mB (jA.calls VN.out) ?_; intro w20 hb; replace HB := bs HB hb; clear hb) | (refine gB Tryz.func209 (iK.calls A16.out) ?_; intro w21 hb; replace HB := bs HB hb; clear hb))
           go_roundg k2
           case measure => exact kl
           case rel => exact ⟨_, _, rs, rs, H', ⟨kl⟩, ⟨ul HB.out⟩⟩
          ·
           have tJ : decide (0 < eP) = false := decide_eq_false c17
           clear c17
           replace H := nn H; obtain ⟨c22, H⟩ := H
           have Fv := eq_true c22
           have Zx := decide_eq_true c22
           try have aCG : (9223372036854775807 < dV.size + ahX.size) = False := eq_false (Nat.not_lt.2 c22)
           have H' := ak H; clear H
           go_wp2_with (first | (go_at_call 208; refine mB (jA.calls VN.out) ?_; intro w23 hb; replace HB := bs HB hb; clear hb) | (refine gB Tryz.func209 (iK.calls A16.out) ?_; intro w24 hb; replace HB := bs HB hb; clear hb))
           go_roundg k2
           case measure => exact kl
           case rel => exact ⟨_, _, rs, rs, H', ⟨kl⟩, ⟨ul HB.out⟩⟩
        ·
         replace H := Ac H; obtain ⟨PU, adQ, H⟩ := H; replace H := Ac H; obtain ⟨NP, ZC, H⟩ := H; replace H := Ac H; obtain ⟨Fe, ZE, H⟩ := H; replace H := bd H
         obtain ⟨⟨ahY, aGo⟩, A28, H⟩ := H
         (try dsimp only at H)
         replace H := sp H
         rcases H with ⟨c29, H⟩ | ⟨c29, H⟩
         ·
          have aau : decide (0 < eP) = true := decide_eq_true c29
          clear c29
          replace H := nn H; obtain ⟨c30, H⟩ := H
          have ZG := eq_true c30
          have aCH := decide_eq_true c30
          try have aCI : (9223372036854775807 < dV.size + 1) = False := eq_false (Nat.not_lt.2 c30)
          replace H := nn H; obtain ⟨c31, H⟩ := H
          have adW := eq_true c31
          have adX := decide_eq_true c31
          try have aCJ : (9223372036854775807 < dV.size + 1 + ahY.size) = False := by have h_ := (eq_false (Nat.not_lt.2 c31) : (9223372036854775807 < (dV ++ (⟨#[32]⟩ : ByteArray)).size + ahY.size) = False); simp only [ByteArray.size_append] at h_; exact h_
          try have aCK : (9223372036854775807 < (dV ++ (⟨#[32]⟩ : ByteArray)).size + ahY.size) = False := eq_false (Nat.not_lt.2 c31)
          have H' := ak H; clear H
          go_wp2_with (refine gB Tryz.func209 (iK.calls A28.out) ?_; intro w32 hb; replace HB := bs HB hb; clear hb)
          go_roundg k2
          case measure => exact kl
          case rel => exact ⟨_, _, rs, rs, H', ⟨kl⟩, ⟨ul HB.out⟩⟩
         ·
          have aau : decide (0 < eP) = false := decide_eq_false c29
          clear c29
          replace H := nn H; obtain ⟨c33, H⟩ := H
          have SI := eq_true c33
          have adO := decide_eq_true c33
          try have aCL : (9223372036854775807 < dV.size + ahY.size) = False := eq_false (Nat.not_lt.2 c33)
          have H' := ak H; clear H
          go_wp2_with (refine gB Tryz.func209 (iK.calls A28.out) ?_; intro w34 hb; replace HB := bs HB hb; clear hb)
          go_roundg k2
          case measure => exact kl
          case rel => exact ⟨_, _, rs, rs, H', ⟨kl⟩, ⟨ul HB.out⟩⟩
     ·
      obtain ⟨rfl, rfl⟩ := s2 H
      go_wp2
      go_ret2
      exact ⟨er, ul HB.out⟩
  ·
   obtain ⟨rfl, rfl⟩ := s2 H
   go_enter Tryz.func194, Tryz.ntmps194
   go_wp2_with (refine gA Tryz.func207 (gJ.calls A3.out) ?_; intro nd)
   go_ret2
   exact ⟨er, ul HB.out⟩
def jL.l0 : Nat → ByteArray → Int → List ByteArray → Int → Int → Option (List ByteArray)
 | 0, _, _, _, _, _ => none
 | k + 1, x0, x1, x5, x6, x7 => if x7 < (x0.size : Int) then (if 0 ≤ x7 then (if (bt x0 x7) = x1 then (if 0 ≤ x6 then (if x6 ≤ x7 then (if x7 ≤ (x0.size : Int) then (if x5.length < 8796093022208 then (jL.l0 k x0 x1 (x5 ++ [x0.extract (x6 : Int).toNat (x7 : Int).toNat]) (wrap64 (x7 + 1)) (wrap64 (x7 + 1))) else (none)) else (none)) else (none)) else (none)) else (jL.l0 k x0 x1 x5 x6 (wrap64 (x7 + 1)))) else (none)) else (if 0 ≤ x6 then (if x6 ≤ (x0.size : Int) then (if x5.length < 8796093022208 then (some (x5 ++ [x0.extract (x6 : Int).toNat x0.size])) else (none)) else (none)) else (none))
def jL.f (k : Nat) (a0 : ByteArray) (a1 : Int) : Option (List ByteArray) := jL.l0 k a0 a1 (([] : List ByteArray)) 0 0
theorem jL.calls {k : Nat} {a0 : ByteArray} {a1 : Int} {r : List ByteArray} {w : World} (h : jL.f k a0 a1 = some r) :
  Calls Tryz.prog 217 #[.string a0, .int .u8 a1] w fun e w' => ∃ ql : Value, e = .returned (ql) ∧ Kd.R Kd.string 9 w' w.heap.size (fun _ => True) ql r ∧ Below w.heap.size w w' := by
 have HB := ak (Below.refl w.heap.size w)
 unfold jL.f at h; have H := h
 clear h
 obtain ⟨aGp, akn⟩ := nm ([] : List ByteArray)
 rw [← akn.out] at H
 have H' := ak H; clear H
 go_enter Tryz.func217, Tryz.ntmps217
 go_wp2_with (refine H7 8 Kd.string 9 akn ?_; intro aGq w3 SN hb; have asG := ak (Kd.aC SN (aj (ul HB.out))); replace HB := bs HB hb; clear hb SN)
 go_loopg [5, 6, 7] k (fun kq v5 v6 v7 w' => ∃ (eP : List ByteArray) (jD : Int) (rJ : Int), v6 = .int .i64 jD ∧ v7 = .int .i64 rJ ∧ ah (jL.l0 kq a0 a1 eP jD rJ = some r) ∧ ah (kq ≤ k) ∧ ah (Kd.R Kd.string 9 w' w.heap.size (fun _ => True) v5 eP) ∧ ah (Below w.heap.size w w'))
 case atStart => exact ⟨_, _, _, rs, rs, H', ⟨Nat.le_refl _⟩, ⟨ur asG.out⟩, ⟨ul HB.out⟩⟩
 case round =>
  clear H'
  obtain ⟨eP, jD, rJ, rfl, rfl, HA, xG, qo, HB⟩ := hrel
  cases gk with
  | zero => exact zz HA.out
  | succ k1 =>
   obtain ⟨H⟩ := HA
   simp only [jL.l0] at H
   replace H := sd H
   rcases H with ⟨nO, H⟩ | ⟨nO, H⟩
   ·
    replace H := oL H; obtain ⟨oz, H⟩ := H; replace H := sq H
    rcases H with ⟨tu, Dl, H⟩ | ⟨c8, tu, Dl, H⟩
    ·
     replace H := Ac H; obtain ⟨yh, Fz, H⟩ := H; replace H := Ac H; obtain ⟨oC, sS, H⟩ := H; replace H := Ac H; obtain ⟨uH, EC, H⟩ := H; replace H := nl H; obtain ⟨WG, H⟩ := H
     obtain ⟨aGr, ako⟩ := nm (eP ++ [a0.extract (jD : Int).toNat (rJ : Int).toNat])
     rw [← ako.out] at H
     have H' := ak H; clear H
     obtain ⟨p7, q7, hx7⟩ := bx a0 rJ
     go_wp2_with (at_builtin; refine aP 20 25 Kd.string 23 9 (.string ⟨#[]⟩) 16 Tryz.underlying23 info9 HB (ur qo.out) ako (by have := WG.out; omega) ?_; intro aGs w13 ho hb hg hat; have asH := ak (ho); replace HB := ak (hb); clear ho hb hg hat qo)
     go_roundg k1
     case measure => exact kl
     case rel => exact ⟨_, _, _, rs, rs, H', ⟨kl⟩, ⟨ur asH.out⟩, ⟨ul HB.out⟩⟩
    ·
     have H' := ak H; clear H
     obtain ⟨p7, q7, hx7⟩ := bx a0 rJ
     go_wp2
     go_roundg k1
     case measure => exact kl
     case rel => exact ⟨_, _, _, rs, rs, H', ⟨kl⟩, ⟨ur qo.out⟩, ⟨ul HB.out⟩⟩
   ·
    replace H := Ac H; obtain ⟨qC, wI, H⟩ := H; replace H := Ac H; obtain ⟨wu, Fj, H⟩ := H; replace H := nl H; obtain ⟨aem, H⟩ := H
    obtain ⟨aGt, akp⟩ := nm (eP ++ [a0.extract (jD : Int).toNat a0.size])
    rw [← akp.out] at H
    obtain rfl := s1 H
    go_wp2_with (at_builtin; refine aP 29 33 Kd.string 23 9 (.string ⟨#[]⟩) 16 Tryz.underlying23 info9 HB (ur qo.out) akp (by have := aem.out; omega) ?_; intro aGu w17 ho hb hg hat; have asI := ak (ho); replace HB := ak (hb); clear ho hb hg hat qo)
    go_ret
    exact ⟨_, er, ur asI.out, ul HB.out⟩
def iL.l0 : Nat → ByteArray → List ByteArray → Int → Option (List ByteArray × Bool)
 | 0, _, _, _ => none
 | k + 1, x0, x4, x5 => if x5 < (x4.length : Int) then (if 0 ≤ x5 then (if ((o9 ByteArray.empty x4 x5).size : Int) > 40 then (some ((([] : List ByteArray)), false)) else ((aQ.f k (o9 ByteArray.empty x4 x5)).bind fun asJ => (if asJ = true then (iL.l0 k x0 x4 (wrap64 (x5 + 1))) else (some ((([] : List ByteArray)), false))))) else (none)) else (some (x4, decide ((x0.size : Int) ≤ 300)))
def iL.f (k : Nat) (a0 : ByteArray) : Option (List ByteArray × Bool) := (jL.f k a0 10).bind fun MF => (iL.l0 k a0 MF 0)
theorem iL.calls {k : Nat} {a0 : ByteArray} {r1 : List ByteArray} {r2 : Bool} {w : World} (h : iL.f k a0 = some (r1, r2)) :
  Calls Tryz.prog 210 #[.string a0] w fun e w' => ∃ ql : Value, e = .returned (.tuple #[ql, .bool r2]) ∧ Kd.R Kd.string 9 w' w.heap.size (fun _ => True) ql r1 ∧ Below w.heap.size w w' := by
 have HB := ak (Below.refl w.heap.size w)
 unfold iL.f at h; have H := h
 clear h
 replace H := bd H; obtain ⟨MF, A2, H⟩ := H
 have H' := ak H; clear H
 go_enter Tryz.func210, Tryz.ntmps210
 go_wp2_with (refine gV Tryz.func217 (jL.calls A2.out) ?_; rintro azB w3 ⟨ho0, hb⟩; have asK := ak (Kd.aC ho0 (aj (ul HB.out))); replace HB := bs HB hb; clear hb; (try clear ho0))
 go_loopg [5] k (fun kq v5 w' => ∃ (eP : Int), v5 = .int .i64 eP ∧ ah (iL.l0 kq a0 MF eP = some (r1, r2)) ∧ ah (kq ≤ k) ∧ ah (Kd.R Kd.string 9 w' w.heap.size (fun _ => True) azB MF) ∧ ah (Below w.heap.size w w'))
 case atStart => exact ⟨_, rs, H', ⟨Nat.le_refl _⟩, ⟨ur asK.out⟩, ⟨ul HB.out⟩⟩
 case round =>
  clear H'
  obtain ⟨eP, rfl, HA, xG, iM, HB⟩ := hrel
  cases gk with
  | zero => exact zz HA.out
  | succ k1 =>
   obtain ⟨H⟩ := HA
   simp only [iL.l0] at H
   replace H := sd H
   rcases H with ⟨su, H⟩ | ⟨su, H⟩
   ·
    replace H := oL H; obtain ⟨nO, H⟩ := H; replace H := sp H
    rcases H with ⟨c6, H⟩ | ⟨c6, H⟩
    ·
     have oz : decide (40 < ((o9 ByteArray.empty MF eP).size : Int)) = true := decide_eq_true c6
     have xH : decide (40 < (o9 ByteArray.empty MF eP).size) = true := decide_eq_true (by omega)
     clear c6
     obtain ⟨aGv, akq⟩ := nm ([] : List ByteArray)
     rw [← akq.out] at H
     obtain ⟨rfl, rfl⟩ := s2 H
     obtain ⟨Ao7, co7, eo7⟩ := Kd.aV iM.out
     subst eo7
     have Qh := zi eP
     have Qi := zj eP MF.length
     obtain ⟨aaS, aen, aaT⟩ := Kd.jZ (Kd.aH iM.out).2.2 eP Qh Qi
     cases aen
     replace Qh := eq_true Qh
     replace Qi := eq_true Qi
     go_wp2_with (refine H7 28 Kd.string 9 akq ?_; intro aGw w8 ho9 hb; have asL := ak (Kd.aC (Kd.gK ho9 (Kd.kU (ur iM.out))) (aj (ul HB.out))); replace iM := ak (Kd.fP (ur iM.out) (Kd.fO ho9) hb); replace HB := bs HB hb; clear hb ho9)
     go_ret2
     exact ⟨_, er, ur (Kd.bn asL.out (fun _ hk => trivial)), ul HB.out⟩
    ·
     have oz : decide (40 < ((o9 ByteArray.empty MF eP).size : Int)) = false := decide_eq_false c6
     have xH : decide (40 < (o9 ByteArray.empty MF eP).size) = false := decide_eq_false (by omega)
     clear c6
     replace H := bd H; obtain ⟨asJ, VN, H⟩ := H; replace H := sb H
     rcases H with ⟨rfl, H⟩ | ⟨rfl, H⟩
     ·
      have H' := ak H; clear H
      obtain ⟨E_, ES, Uc⟩ := Kd.aV iM.out
      subst Uc
      have Qh := zi eP
      have Qi := zj eP MF.length
      obtain ⟨aaS, aen, aaT⟩ := Kd.jZ (Kd.aH iM.out).2.2 eP Qh Qi
      cases aen
      replace Qh := eq_true Qh
      replace Qi := eq_true Qi
      have Yr := zi eP
      have Yt := zj eP MF.length
      obtain ⟨aeo, an1, ahZ⟩ := Kd.jZ (Kd.aH iM.out).2.2 eP Yr Yt
      obtain rfl : aaS = aeo := (by injection an1)
      replace Yr := eq_true Yr
      replace Yt := eq_true Yt
      go_wp2_with (go_at_call 159; refine mA (aQ.calls VN.out) ?_; intro nd)
      go_roundg k1
      case measure => exact kl
      case rel => exact ⟨_, rs, H', ⟨kl⟩, ⟨ur iM.out⟩, ⟨ul HB.out⟩⟩
     ·
      obtain ⟨aGx, akr⟩ := nm ([] : List ByteArray)
      rw [← akr.out] at H
      obtain ⟨rfl, rfl⟩ := s2 H
      obtain ⟨XU, Jk, Ud⟩ := Kd.aV iM.out
      subst Ud
      have Qh := zi eP
      have Qi := zj eP MF.length
      obtain ⟨aaS, aen, aaT⟩ := Kd.jZ (Kd.aH iM.out).2.2 eP Qh Qi
      cases aen
      replace Qh := eq_true Qh
      replace Qi := eq_true Qi
      have Yr := zi eP
      have Yt := zj eP MF.length
      obtain ⟨aeo, an1, ahZ⟩ := Kd.jZ (Kd.aH iM.out).2.2 eP Yr Yt
      obtain rfl : aaS = aeo := (by injection an1)
      replace Yr := eq_true Yr
      replace Yt := eq_true Yt
      go_wp2_with (first | (go_at_call 159; refine mA (aQ.calls VN.out) ?_; intro nd) | (refine H7 28 Kd.string 9 akr ?_; intro aGy SA Ot hb; have asM := ak (Kd.aC (Kd.gK Ot (Kd.kU (ur iM.out))) (aj (ul HB.out))); replace iM := ak (Kd.fP (ur iM.out) (Kd.fO Ot) hb); replace HB := bs HB hb; clear hb Ot))
      go_ret2
      exact ⟨_, er, ur (Kd.bn asM.out (fun _ hk => trivial)), ul HB.out⟩
   ·
    obtain ⟨rfl, rfl⟩ := s2 H
    obtain ⟨WC, WE, UQ⟩ := Kd.aV iM.out
    subst UQ
    go_wp2
    go_ret2
    exact ⟨_, er, ur iM.out, ul HB.out⟩
end Go.Proofs.YtncdadcmghglkaaGreatDoor.PFnKidValid
