/- Printed walks; conditions: those in each statement. -/
import Derived.Test.YtncdadcmghglkaaGreatDoorVFnPartLinesQt
import Derived.Test.YtncdadcmghglkaaGreatDoorVFnPartLinesYt
import Derived.Test.YtncdadcmghglkaaGreatDoorPFnPartLinesx0
import Derived.Test.YtncdadcmghglkaaGreatDoorPFnPartLinesx2
-- short
-- dense
-- sq
-- sq2
namespace Go.Proofs.YtncdadcmghglkaaGreatDoor.PFnPartLines
open Go.RowKit Go.Proofs.YtncdadcmghglkaaGreatDoor.X Go.Proofs.YtncdadcmghglkaaGreatDoorW.bI Go.Proofs.YtncdadcmghglkaaGreatDoorW.iy Go.Proofs.YtncdadcmghglkaaGreatDoorW.iZ
attribute [local go_sem] kZ lg nK nM jW jX lq lu   -- for this text's walks alone
set_option linter.unusedVariables false
set_option maxHeartbeats 8000000
set_option maxRecDepth 100000
set_option linter.unusedSimpArgs false
def lG.f (a0 : Int) : Option (ByteArray) := if 0 ≤ (a0 / 16) then (if (a0 / 16) ≤ (((a0 / 16) + 1) % 256) then (if (((a0 / 16) + 1) % 256) ≤ 16 then (if 1 + ((⟨#[48, 49, 50, 51, 52, 53, 54, 55, 56, 57, 65, 66, 67, 68, 69, 70]⟩ : ByteArray).extract ((a0 / 16) : Int).toNat ((((a0 / 16) + 1) % 256) : Int).toNat).size ≤ 9223372036854775807 then (if 0 ≤ (Go.bits .and .u8 a0 15) then (if (Go.bits .and .u8 a0 15) ≤ (((Go.bits .and .u8 a0 15) + 1) % 256) then (if (((Go.bits .and .u8 a0 15) + 1) % 256) ≤ 16 then (if ((⟨#[61]⟩ : ByteArray) ++ ((⟨#[48, 49, 50, 51, 52, 53, 54, 55, 56, 57, 65, 66, 67, 68, 69, 70]⟩ : ByteArray).extract ((a0 / 16) : Int).toNat ((((a0 / 16) + 1) % 256) : Int).toNat)).size + ((⟨#[48, 49, 50, 51, 52, 53, 54, 55, 56, 57, 65, 66, 67, 68, 69, 70]⟩ : ByteArray).extract ((Go.bits .and .u8 a0 15) : Int).toNat ((((Go.bits .and .u8 a0 15) + 1) % 256) : Int).toNat).size ≤ 9223372036854775807 then (some (((⟨#[61]⟩ : ByteArray) ++ ((⟨#[48, 49, 50, 51, 52, 53, 54, 55, 56, 57, 65, 66, 67, 68, 69, 70]⟩ : ByteArray).extract ((a0 / 16) : Int).toNat ((((a0 / 16) + 1) % 256) : Int).toNat)) ++ ((⟨#[48, 49, 50, 51, 52, 53, 54, 55, 56, 57, 65, 66, 67, 68, 69, 70]⟩ : ByteArray).extract ((Go.bits .and .u8 a0 15) : Int).toNat ((((Go.bits .and .u8 a0 15) + 1) % 256) : Int).toNat))) else (none)) else (none)) else (none)) else (none)) else (none)) else (none)) else (none)) else (none)
theorem lG.calls {a0 : Int} {r : ByteArray} {w : World} (h : lG.f a0 = some r) :
  Calls Tryz.prog 221 #[.int .u8 a0] w fun e w' => e = .returned (.string r) ∧ dP w w' := by
 unfold lG.f at h; have H := h
 clear h
 obtain ⟨QE, anC⟩ : ∃ j_ : Int, (a0 / 16) = j_ := ⟨_, rfl⟩
 replace H : (if 0 ≤ (QE) then (if (QE) ≤ (((QE) + 1) % 256) then (if (((QE) + 1) % 256) ≤ 16 then (if 1 + ((⟨#[48, 49, 50, 51, 52, 53, 54, 55, 56, 57, 65, 66, 67, 68, 69, 70]⟩ : ByteArray).extract ((QE) : Int).toNat ((((QE) + 1) % 256) : Int).toNat).size ≤ 9223372036854775807 then (if 0 ≤ (Go.bits .and .u8 a0 15) then (if (Go.bits .and .u8 a0 15) ≤ (((Go.bits .and .u8 a0 15) + 1) % 256) then (if (((Go.bits .and .u8 a0 15) + 1) % 256) ≤ 16 then (if ((⟨#[61]⟩ : ByteArray) ++ ((⟨#[48, 49, 50, 51, 52, 53, 54, 55, 56, 57, 65, 66, 67, 68, 69, 70]⟩ : ByteArray).extract ((QE) : Int).toNat ((((QE) + 1) % 256) : Int).toNat)).size + ((⟨#[48, 49, 50, 51, 52, 53, 54, 55, 56, 57, 65, 66, 67, 68, 69, 70]⟩ : ByteArray).extract ((Go.bits .and .u8 a0 15) : Int).toNat ((((Go.bits .and .u8 a0 15) + 1) % 256) : Int).toNat).size ≤ 9223372036854775807 then (some (((⟨#[61]⟩ : ByteArray) ++ ((⟨#[48, 49, 50, 51, 52, 53, 54, 55, 56, 57, 65, 66, 67, 68, 69, 70]⟩ : ByteArray).extract ((QE) : Int).toNat ((((QE) + 1) % 256) : Int).toNat)) ++ ((⟨#[48, 49, 50, 51, 52, 53, 54, 55, 56, 57, 65, 66, 67, 68, 69, 70]⟩ : ByteArray).extract ((Go.bits .and .u8 a0 15) : Int).toNat ((((Go.bits .and .u8 a0 15) + 1) % 256) : Int).toNat))) else (none)) else (none)) else (none)) else (none)) else (none)) else (none)) else (none)) else (none)) = some r := by first | (rw [anC] at H; exact H) | (simp only [anC] at H ⊢; exact H)
 replace H := yL H; obtain ⟨iO, yK, H⟩ := H; replace H := nn H; obtain ⟨c4, H⟩ := H
 have qR := eq_true c4
 have Xk := decide_eq_true c4
 replace H := nn H; obtain ⟨c5, H⟩ := H
 have mW := eq_true c5
 have IY := decide_eq_true c5
 replace H := nn H; obtain ⟨c6, H⟩ := H
 have nN := eq_true c6
 have wR := decide_eq_true c6
 try have aHe : (9223372036854775807 < 1 + (((⟨#[48, 49, 50, 51, 52, 53, 54, 55, 56, 57, 65, 66, 67, 68, 69, 70]⟩ : ByteArray).extract ((QE) : Int).toNat ((((QE) + 1) % 256) : Int).toNat).size)) = False := by have h_ := c6; simp only [ByteArray.size_append, ByteArray.size_extract] at h_; refine eq_false ?_; simp only [decide_eq_true_eq] at *; omega
 try have agI : (9223372036854775807 < 1 + ((⟨#[48, 49, 50, 51, 52, 53, 54, 55, 56, 57, 65, 66, 67, 68, 69, 70]⟩ : ByteArray).extract ((QE) : Int).toNat ((((QE) + 1) % 256) : Int).toNat).size) = False := eq_false (Nat.not_lt.2 c6)
 replace H := yL H; obtain ⟨rF, HY, H⟩ := H; replace H := nn H; obtain ⟨c8, H⟩ := H
 have tX := eq_true c8
 have Eu := decide_eq_true c8
 replace H := nn H; obtain ⟨c9, H⟩ := H
 have xY := eq_true c9
 have EN := decide_eq_true c9
 replace H := nn H; obtain ⟨c10, H⟩ := H
 have nY := eq_true c10
 have rX := decide_eq_true c10
 try have asx : (9223372036854775807 < (⟨#[61]⟩ : ByteArray).size + (((⟨#[48, 49, 50, 51, 52, 53, 54, 55, 56, 57, 65, 66, 67, 68, 69, 70]⟩ : ByteArray).extract ((QE) : Int).toNat ((((QE) + 1) % 256) : Int).toNat).size) + (((⟨#[48, 49, 50, 51, 52, 53, 54, 55, 56, 57, 65, 66, 67, 68, 69, 70]⟩ : ByteArray).extract ((Go.bits .and .u8 a0 15) : Int).toNat ((((Go.bits .and .u8 a0 15) + 1) % 256) : Int).toNat).size)) = False := by have h_ := c10; simp only [ByteArray.size_append, ByteArray.size_extract] at h_; refine eq_false ?_; simp only [decide_eq_true_eq] at *; omega
 try have aiP : (9223372036854775807 < 1 + (((⟨#[48, 49, 50, 51, 52, 53, 54, 55, 56, 57, 65, 66, 67, 68, 69, 70]⟩ : ByteArray).extract ((QE) : Int).toNat ((((QE) + 1) % 256) : Int).toNat).size) + (((⟨#[48, 49, 50, 51, 52, 53, 54, 55, 56, 57, 65, 66, 67, 68, 69, 70]⟩ : ByteArray).extract ((Go.bits .and .u8 a0 15) : Int).toNat ((((Go.bits .and .u8 a0 15) + 1) % 256) : Int).toNat).size)) = False := by have h_ := (eq_false (Nat.not_lt.2 c10) : (9223372036854775807 < ((⟨#[61]⟩ : ByteArray) ++ ((⟨#[48, 49, 50, 51, 52, 53, 54, 55, 56, 57, 65, 66, 67, 68, 69, 70]⟩ : ByteArray).extract ((QE) : Int).toNat ((((QE) + 1) % 256) : Int).toNat)).size + ((⟨#[48, 49, 50, 51, 52, 53, 54, 55, 56, 57, 65, 66, 67, 68, 69, 70]⟩ : ByteArray).extract ((Go.bits .and .u8 a0 15) : Int).toNat ((((Go.bits .and .u8 a0 15) + 1) % 256) : Int).toNat).size) = False); simp only [ByteArray.size_append] at h_; exact h_
 try have Zf : (9223372036854775807 < ((⟨#[61]⟩ : ByteArray) ++ ((⟨#[48, 49, 50, 51, 52, 53, 54, 55, 56, 57, 65, 66, 67, 68, 69, 70]⟩ : ByteArray).extract ((QE) : Int).toNat ((((QE) + 1) % 256) : Int).toNat)).size + ((⟨#[48, 49, 50, 51, 52, 53, 54, 55, 56, 57, 65, 66, 67, 68, 69, 70]⟩ : ByteArray).extract ((Go.bits .and .u8 a0 15) : Int).toNat ((((Go.bits .and .u8 a0 15) + 1) % 256) : Int).toNat).size) = False := eq_false (Nat.not_lt.2 c10)
 obtain rfl := s1 H
 go_enter Tryz.func221, Tryz.ntmps221
 go_wp2
 repeat (go_quiet (fail); try go_wp2)
 go_ret
 exact ⟨by first | rfl | (simp; done) | (simp only [← anC] <;> (first | rfl | simp)) | (simp [*]; done), dn⟩
def wF.f (a0 : Int) : Option (ByteArray) := if a0 = 32 then (some (⟨#[95]⟩ : ByteArray)) else ((gJ.f a0).bind fun t124 => (if t124 = true then (some (strOfNums (([a0] : List Int)))) else (if a0 = 45 then (some (strOfNums (([a0] : List Int)))) else (if a0 = 46 then (some (strOfNums (([a0] : List Int)))) else ((lG.f a0).bind fun auf => (some auf))))))
theorem wF.calls {a0 : Int} {r : ByteArray} {w : World} (h : wF.f a0 = some r) :
  Calls Tryz.prog 216 #[.int .u8 a0] w fun e w' => e = .returned (.string r) ∧ Below w.heap.size w w' := by
 have HB := ak (Below.refl w.heap.size w)
 unfold wF.f at h; have H := h
 clear h
 replace H := sq H
 rcases H with ⟨ou, vK, H⟩ | ⟨c2, ou, vK, H⟩
 ·
  obtain rfl := s1 H
  go_enter Tryz.func216, Tryz.ntmps216
  go_wp2
  go_ret
  exact ⟨er, ul HB.out⟩
 ·
  replace H := bd H; obtain ⟨t124, A3, H⟩ := H; replace H := sb H
  rcases H with ⟨rfl, H⟩ | ⟨rfl, H⟩
  ·
   obtain ⟨aHf, aj8⟩ := nm ([a0] : List Int)
   rw [← aj8.out] at H
   obtain rfl := s1 H
   go_enter Tryz.func216, Tryz.ntmps216
   go_wp2_with (first | (refine gA Tryz.func183 (gJ.calls A3.out) ?_; intro nd) | (refine QD 16 (Kd.int .u8) 5 [.int .u8 a0] aj8 (dh.one (show Kd.M (Kd.int .u8) _ _ _ a0 [.int .u8 a0] from rfl) (dh.none _ _)) ?_; intro aHg w5 Y8 hb; have aug := ak (Kd.aC Y8 (aj (ul HB.out))); replace HB := bs HB hb; clear hb Y8; have aHh := qE (P := Tryz.prog) Tryz.underlying22 Tryz.underlying5 Tryz.underlying9 (Kd.uJ aug.out)))
   go_ret
   exact ⟨er, ul HB.out⟩
  ·
   replace H := sq H
   rcases H with ⟨tX, Eu, H⟩ | ⟨c8, tX, Eu, H⟩
   ·
    obtain ⟨aHi, aj9⟩ := nm ([a0] : List Int)
    rw [← aj9.out] at H
    obtain rfl := s1 H
    go_enter Tryz.func216, Tryz.ntmps216
    go_wp2_with (first | (refine gA Tryz.func183 (gJ.calls A3.out) ?_; intro nd) | (refine QD 16 (Kd.int .u8) 5 [.int .u8 a0] aj9 (dh.one (show Kd.M (Kd.int .u8) _ _ _ a0 [.int .u8 a0] from rfl) (dh.none _ _)) ?_; intro aHj w9 NY hb; have auh := ak (Kd.aC NY (aj (ul HB.out))); replace HB := bs HB hb; clear hb NY; have aui := qE (P := Tryz.prog) Tryz.underlying22 Tryz.underlying5 Tryz.underlying9 (Kd.uJ auh.out)))
    go_ret
    exact ⟨er, ul HB.out⟩
   ·
    replace H := sq H
    rcases H with ⟨wU, CP, H⟩ | ⟨c12, wU, CP, H⟩
    ·
     obtain ⟨aHk, aj_⟩ := nm ([a0] : List Int)
     rw [← aj_.out] at H
     obtain rfl := s1 H
     go_enter Tryz.func216, Tryz.ntmps216
     go_wp2_with (first | (refine gA Tryz.func183 (gJ.calls A3.out) ?_; intro nd) | (refine QD 16 (Kd.int .u8) 5 [.int .u8 a0] aj_ (dh.one (show Kd.M (Kd.int .u8) _ _ _ a0 [.int .u8 a0] from rfl) (dh.none _ _)) ?_; intro aHl w13 VU hb; have auj := ak (Kd.aC VU (aj (ul HB.out))); replace HB := bs HB hb; clear hb VU; have auk := qE (P := Tryz.prog) Tryz.underlying22 Tryz.underlying5 Tryz.underlying9 (Kd.uJ auj.out)))
     go_ret
     exact ⟨er, ul HB.out⟩
    ·
     replace H := bd H; obtain ⟨auf, ZE, H⟩ := H
     obtain rfl := s1 H
     go_enter Tryz.func216, Tryz.ntmps216
     go_wp2_with (first | (refine gA Tryz.func183 (gJ.calls A3.out) ?_; intro nd) | (refine gA Tryz.func221 (lG.calls ZE.out) ?_; intro nd))
     go_ret
     exact ⟨er, ul HB.out⟩
def jv.l0 : Nat → ByteArray → ByteArray → Int → Option (ByteArray)
 | 0, _, _, _ => none
 | k + 1, x0, x3, x4 => if x4 < (x0.size : Int) then (if 0 ≤ x4 then ((wF.f (bt x0 x4)).bind fun ahe => (if x3.size + ahe.size ≤ 9223372036854775807 then (jv.l0 k x0 (x3 ++ ahe) (wrap64 (x4 + 1))) else (none))) else (none)) else (some x3)
def jv.f (k : Nat) (a0 : ByteArray) : Option (ByteArray) := jv.l0 k a0 (⟨#[]⟩ : ByteArray) 0
theorem jv.calls {k : Nat} {a0 r : ByteArray} {w : World} (h : jv.f k a0 = some r) :
  Calls Tryz.prog 208 #[.string a0] w fun e w' => e = .returned (.string r) ∧ Below w.heap.size w w' := by
 have HB := ak (Below.refl w.heap.size w)
 unfold jv.f at h; have H := h
 clear h
 have H' := ak H; clear H
 go_enter Tryz.func208, Tryz.ntmps208
 go_wp2
 go_loopg [3, 4] k (fun kq v3 v4 w' => ∃ (dW : ByteArray) (eP : Int), v3 = .string dW ∧ v4 = .int .i64 eP ∧ ah (jv.l0 kq a0 dW eP = some r) ∧ ah (kq ≤ k) ∧ ah (Below w.heap.size w w'))
 case atStart => exact ⟨_, _, rs, rs, H', ⟨Nat.le_refl _⟩, ⟨ul HB.out⟩⟩
 case round =>
  clear H'
  obtain ⟨dW, eP, rfl, rfl, HA, xI, HB⟩ := hrel
  cases gk with
  | zero => exact zz HA.out
  | succ k1 =>
   obtain ⟨H⟩ := HA
   simp only [jv.l0] at H
   replace H := sd H
   rcases H with ⟨ou, H⟩ | ⟨ou, H⟩
   ·
    replace H := oq H; obtain ⟨iO, H⟩ := H; replace H := bd H; obtain ⟨ahe, A5, H⟩ := H; replace H := nn H; obtain ⟨c6, H⟩ := H
    have nN := eq_true c6
    have wR := decide_eq_true c6
    try have agI : (9223372036854775807 < dW.size + ahe.size) = False := eq_false (Nat.not_lt.2 c6)
    have H' := ak H; clear H
    obtain ⟨p4, q4, hx4⟩ := bx a0 eP
    go_wp2_with (refine gB Tryz.func216 (wF.calls A5.out) ?_; intro w7 hb; replace HB := bs HB hb; clear hb)
    go_roundg k1
    case measure => exact kl
    case rel => exact ⟨_, _, rs, rs, H', ⟨kl⟩, ⟨ul HB.out⟩⟩
   ·
    obtain rfl := s1 H
    go_wp2
    go_ret
    exact ⟨er, ul HB.out⟩
def iL.j0 : Nat → ByteArray → Bool → Option (ByteArray × Bool)
 | 0, _, _ => none
 | k + 1, x0, x12 => if x12 = true then (some ((⟨#[]⟩ : ByteArray), false)) else ((jv.f k x0).bind fun zq => (if 10 + zq.size ≤ 9223372036854775807 then (if ((⟨#[61, 63, 117, 116, 102, 45, 56, 63, 113, 63]⟩ : ByteArray) ++ zq).size + 2 ≤ 9223372036854775807 then (if ((((⟨#[61, 63, 117, 116, 102, 45, 56, 63, 113, 63]⟩ : ByteArray) ++ zq) ++ (⟨#[63, 61]⟩ : ByteArray)).size : Int) > 40 then (some ((⟨#[]⟩ : ByteArray), false)) else (some (((⟨#[61, 63, 117, 116, 102, 45, 56, 63, 113, 63]⟩ : ByteArray) ++ zq) ++ (⟨#[63, 61]⟩ : ByteArray), true))) else (none)) else (none)))
def iL.f (k : Nat) (a0 : ByteArray) : Option (ByteArray × Bool) := if (a0.size : Int) < 1 then (iL.j0 k a0 true) else (iL.j0 k a0 (decide ((a0.size : Int) > 40)))
theorem iL.calls {k : Nat} {a0 r1 : ByteArray} {r2 : Bool} {w : World} (h : iL.f k a0 = some (r1, r2)) :
  Calls Tryz.prog 209 #[.string a0] w fun e w' => e = .returned (.tuple #[.string r1, .bool r2]) ∧ Below w.heap.size w w' := by
 have HB := ak (Below.refl w.heap.size w)
 unfold iL.f at h; have H := h
 clear h
 have HC2 := ak H
 clear H
 go_enter Tryz.func209, Tryz.ntmps209
 go_upto_region 1 with (fail)
 go_cut [12] (fun v12 wc => ∃ (kq : Nat) (aex : Bool), v12 = .bool aex ∧ ah (iL.j0 kq a0 aex = some (r1, r2)) ∧ ah (kq ≤ k) ∧ ah (Below w.heap.size w wc))
 case first =>
  have H := HC2.out
  clear HC2
  replace H := sp H
  rcases H with ⟨c3, H⟩ | ⟨c3, H⟩
  ·
   have iO := decide_eq_true c3
   have yK : decide (a0.size < 1) = true := decide_eq_true (by omega)
   clear c3
   (first | rw [iO] | (simp only [iK, jI]; rw [iO]) | skip)
   have H' := ak H; clear H
   go_wp2
   go_meet
   case rel => exact ⟨_, _, rs, H', ⟨IL⟩, ⟨ul HB.out⟩⟩
  ·
   have iO := decide_eq_false c3
   have yK : decide (a0.size < 1) = false := decide_eq_false (by omega)
   clear c3
   (first | rw [iO] | (simp only [iK, jI]; rw [iO]) | skip)
   have H' := ak H; clear H
   go_wp2
   go_meet
   case rel => exact ⟨_, _, rs, H', ⟨IL⟩, ⟨ul HB.out⟩⟩
 case rest =>
  clear HC2
  obtain ⟨kq, aex, rfl, HA, HJ1, HB⟩ := hcut
  cases kq with
  | zero => exact zz HA.out
  | succ NK =>
   obtain ⟨H⟩ := HA
   simp only [iL.j0] at H
   replace H := sb H
   rcases H with ⟨rfl, H⟩ | ⟨rfl, H⟩
   ·
    obtain ⟨rfl, rfl⟩ := s2 H
    go_wp2
    go_ret2
    exact ⟨er, ul HB.out⟩
   ·
    replace H := bd H; obtain ⟨zq, A5, H⟩ := H; replace H := nn H; obtain ⟨c6, H⟩ := H
    have nN := eq_true c6
    have wR := decide_eq_true c6
    try have agI : (9223372036854775807 < 10 + zq.size) = False := eq_false (Nat.not_lt.2 c6)
    replace H := nn H; obtain ⟨c7, H⟩ := H
    have rF := eq_true c7
    have HY := decide_eq_true c7
    try have aHm : (9223372036854775807 < 10 + zq.size + 2) = False := by have h_ := (eq_false (Nat.not_lt.2 c7) : (9223372036854775807 < ((⟨#[61, 63, 117, 116, 102, 45, 56, 63, 113, 63]⟩ : ByteArray) ++ zq).size + 2) = False); simp only [ByteArray.size_append] at h_; exact h_
    try have ayN : (9223372036854775807 < ((⟨#[61, 63, 117, 116, 102, 45, 56, 63, 113, 63]⟩ : ByteArray) ++ zq).size + 2) = False := eq_false (Nat.not_lt.2 c7)
    replace H := sp H
    rcases H with ⟨c8, H⟩ | ⟨c8, H⟩
    ·
     have tX : decide (40 < ((((⟨#[61, 63, 117, 116, 102, 45, 56, 63, 113, 63]⟩ : ByteArray) ++ zq) ++ (⟨#[63, 61]⟩ : ByteArray)).size : Int)) = true := decide_eq_true c8
     have Eu : decide (40 < (((⟨#[61, 63, 117, 116, 102, 45, 56, 63, 113, 63]⟩ : ByteArray) ++ zq) ++ (⟨#[63, 61]⟩ : ByteArray)).size) = true := decide_eq_true (by omega)
     (try (have aps : decide (40 < 10 + (zq.size : Int) + 2) = true := decide_eq_true (by have e0_ : (((⟨#[61, 63, 117, 116, 102, 45, 56, 63, 113, 63]⟩ : ByteArray) ++ zq) ++ (⟨#[63, 61]⟩ : ByteArray)).size = 10 + zq.size + 2 := (by first | (simp only [ByteArray.size_append]; rfl) | simp only [ByteArray.size_append]); omega)))
     (try (have azC : decide (40 < 10 + zq.size + 2) = true := decide_eq_true (by have e0_ : (((⟨#[61, 63, 117, 116, 102, 45, 56, 63, 113, 63]⟩ : ByteArray) ++ zq) ++ (⟨#[63, 61]⟩ : ByteArray)).size = 10 + zq.size + 2 := (by first | (simp only [ByteArray.size_append]; rfl) | simp only [ByteArray.size_append]); omega)))
     clear c8
     obtain ⟨rfl, rfl⟩ := s2 H
     go_wp2_with (refine gB Tryz.func208 (jv.calls A5.out) ?_; intro w9 hb; replace HB := bs HB hb; clear hb)
     go_ret2
     exact ⟨er, ul HB.out⟩
    ·
     have tX : decide (40 < ((((⟨#[61, 63, 117, 116, 102, 45, 56, 63, 113, 63]⟩ : ByteArray) ++ zq) ++ (⟨#[63, 61]⟩ : ByteArray)).size : Int)) = false := decide_eq_false c8
     have Eu : decide (40 < (((⟨#[61, 63, 117, 116, 102, 45, 56, 63, 113, 63]⟩ : ByteArray) ++ zq) ++ (⟨#[63, 61]⟩ : ByteArray)).size) = false := decide_eq_false (by omega)
     (try (have aps : decide (40 < 10 + (zq.size : Int) + 2) = false := decide_eq_false (by have e0_ : (((⟨#[61, 63, 117, 116, 102, 45, 56, 63, 113, 63]⟩ : ByteArray) ++ zq) ++ (⟨#[63, 61]⟩ : ByteArray)).size = 10 + zq.size + 2 := (by first | (simp only [ByteArray.size_append]; rfl) | simp only [ByteArray.size_append]); omega)))
     (try (have azC : decide (40 < 10 + zq.size + 2) = false := decide_eq_false (by have e0_ : (((⟨#[61, 63, 117, 116, 102, 45, 56, 63, 113, 63]⟩ : ByteArray) ++ zq) ++ (⟨#[63, 61]⟩ : ByteArray)).size = 10 + zq.size + 2 := (by first | (simp only [ByteArray.size_append]; rfl) | simp only [ByteArray.size_append]); omega)))
     clear c8
     obtain ⟨rfl, rfl⟩ := s2 H
     go_wp2_with (refine gB Tryz.func208 (jv.calls A5.out) ?_; intro w10 hb; replace HB := bs HB hb; clear hb)
     go_ret2
     exact ⟨er, ul HB.out⟩
mutual
def bG.l0 : Nat → ByteArray → ByteArray → Int → Option (ByteArray × Bool)
 | 0, _, _, _ => none
 | k + 1, x0, x4, x5 => if x5 < (x0.size : Int) then (bG.l1 k x0 x4 x5 (wrap64 (x5 + 1))) else (some (x4, true))
def bG.l1 : Nat → ByteArray → ByteArray → Int → Int → Option (ByteArray × Bool)
 | 0, _, _, _, _ => none
 | k + 1, x0, x4, x5, x6 => if x6 < (x0.size : Int) then (if 0 ≤ x5 then (if x5 ≤ (wrap64 (x6 + 1)) then (if (wrap64 (x6 + 1)) ≤ (x0.size : Int) then ((jv.f k (x0.extract (x5 : Int).toNat ((wrap64 (x6 + 1)) : Int).toNat)).bind fun t138 => (if (t138.size : Int) ≤ 28 then (bG.l1 k x0 x4 x5 (wrap64 (x6 + 1))) else (if x5 ≤ x6 then (if x6 ≤ (x0.size : Int) then ((iL.f k (x0.extract (x5 : Int).toNat (x6 : Int).toNat)).bind fun aal => (if x5 > 0 then (if x4.size + 1 ≤ 9223372036854775807 then (if (x4 ++ (⟨#[32]⟩ : ByteArray)).size + aal.1.size ≤ 9223372036854775807 then (bG.l0 k x0 ((x4 ++ (⟨#[32]⟩ : ByteArray)) ++ aal.1) x6) else (none)) else (none)) else (if x4.size + aal.1.size ≤ 9223372036854775807 then (bG.l0 k x0 (x4 ++ aal.1) x6) else (none)))) else (none)) else (none)))) else (none)) else (none)) else (none)) else (if 0 ≤ x5 then (if x5 ≤ x6 then (if x6 ≤ (x0.size : Int) then ((iL.f k (x0.extract (x5 : Int).toNat (x6 : Int).toNat)).bind fun aam => (if x5 > 0 then (if x4.size + 1 ≤ 9223372036854775807 then (if (x4 ++ (⟨#[32]⟩ : ByteArray)).size + aam.1.size ≤ 9223372036854775807 then (bG.l0 k x0 ((x4 ++ (⟨#[32]⟩ : ByteArray)) ++ aam.1) x6) else (none)) else (none)) else (if x4.size + aam.1.size ≤ 9223372036854775807 then (bG.l0 k x0 (x4 ++ aam.1) x6) else (none)))) else (none)) else (none)) else (none))
end
def bG.f (k : Nat) (a0 : ByteArray) : Option (ByteArray × Bool) := if (a0.size : Int) > 120 then (some ((⟨#[]⟩ : ByteArray), false)) else ((gK.f k a0).bind fun aul => (if aul = true then (bG.l0 k a0 (⟨#[]⟩ : ByteArray) 0) else (some (a0, true))))
theorem bG.calls {k : Nat} {a0 r1 : ByteArray} {r2 : Bool} {w : World} (h : bG.f k a0 = some (r1, r2)) :
  Calls Tryz.prog 194 #[.string a0] w fun e w' => e = .returned (.tuple #[.string r1, .bool r2]) ∧ Below w.heap.size w w' := by
 have HB := ak (Below.refl w.heap.size w)
 unfold bG.f at h; have H := h
 clear h
 replace H := sp H
 rcases H with ⟨c2, H⟩ | ⟨c2, H⟩
 ·
  have ou : decide (120 < (a0.size : Int)) = true := decide_eq_true c2
  have vK : decide (120 < a0.size) = true := decide_eq_true (by omega)
  clear c2
  obtain ⟨rfl, rfl⟩ := s2 H
  go_enter Tryz.func194, Tryz.ntmps194
  go_wp2
  go_ret2
  exact ⟨er, ul HB.out⟩
 ·
  have ou : decide (120 < (a0.size : Int)) = false := decide_eq_false c2
  have vK : decide (120 < a0.size) = false := decide_eq_false (by omega)
  clear c2
  replace H := bd H; obtain ⟨aul, A3, H⟩ := H; replace H := sb H
  rcases H with ⟨rfl, H⟩ | ⟨rfl, H⟩
  ·
   have H' := ak H; clear H
   go_enter Tryz.func194, Tryz.ntmps194
   go_wp2_with (refine gA Tryz.func207 (gK.calls A3.out) ?_; intro nd)
   go_loopg [4, 5] k (fun kq v4 v5 w' => ∃ (eP : ByteArray) (dM : Int), v4 = .string eP ∧ v5 = .int .i64 dM ∧ ah (bG.l0 kq a0 eP dM = some (r1, r2)) ∧ ah (kq ≤ k) ∧ ah (Below w.heap.size w w'))
   case atStart => exact ⟨_, _, rs, rs, H', ⟨Nat.le_refl _⟩, ⟨ul HB.out⟩⟩
   case round =>
    clear H'
    try clear c2
    try clear ou
    try clear vK
    obtain ⟨eP, dM, rfl, rfl, HA, xI, HB⟩ := hrel
    cases gk with
    | zero => exact zz HA.out
    | succ k1 =>
     obtain ⟨H⟩ := HA
     simp only [bG.l0] at H
     replace H := sd H
     rcases H with ⟨mW, H⟩ | ⟨mW, H⟩
     ·
      have H' := ak H; clear H
      go_wp2
      go_loopg [6] k1 (fun kq v6 w' => ∃ (Bd : Int), v6 = .int .i64 Bd ∧ ah (bG.l1 kq a0 eP dM Bd = some (r1, r2)) ∧ ah (kq ≤ k1) ∧ ah (Below w.heap.size w w'))
      case atStart => exact ⟨_, rs, H', ⟨Nat.le_refl _⟩, ⟨ul HB.out⟩⟩
      case round =>
       clear H'
       try clear c2
       try clear ou
       try clear vK
       try clear mW
       obtain ⟨Bd, rfl, HA, MJ, HB⟩ := hrel
       cases gk with
       | zero => exact zz HA.out
       | succ k2 =>
        obtain ⟨H⟩ := HA
        simp only [bG.l1] at H
        replace H := sd H
        rcases H with ⟨nN, H⟩ | ⟨nN, H⟩
        ·
         replace H := yL H; obtain ⟨rF, HY, H⟩ := H; replace H := nn H; obtain ⟨c8, H⟩ := H
         have tX := eq_true c8
         have Eu := decide_eq_true c8
         replace H := nn H; obtain ⟨c9, H⟩ := H
         have xY := eq_true c9
         have EN := decide_eq_true c9
         replace H := bd H; obtain ⟨t138, WV, H⟩ := H; replace H := sp H
         rcases H with ⟨c11, H⟩ | ⟨c11, H⟩
         ·
          have t_ := decide_eq_true c11
          have D7 : decide (t138.size ≤ 28) = true := decide_eq_true (by omega)
          clear c11
          have H' := ak H; clear H
          go_wp2_with (go_at_call 208; refine mB (jv.calls WV.out) ?_; intro w12 hb; replace HB := bs HB hb; clear hb)
          go_roundg k2
          case measure => exact kl
          case rel => exact ⟨_, rs, H', ⟨kl⟩, ⟨ul HB.out⟩⟩
         ·
          have t_ := decide_eq_false c11
          have D7 : decide (t138.size ≤ 28) = false := decide_eq_false (by omega)
          clear c11
          have vw := eq_true (of_decide_eq_true (by assumption) : 0 ≤ dM)
          replace H := yL H; obtain ⟨sH, wS, H⟩ := H; replace H := yL H; obtain ⟨vC, ER, H⟩ := H; replace H := bd H
          obtain ⟨⟨t139, aHn⟩, ZE, H⟩ := H
          (try dsimp only at H)
          replace H := sp H
          rcases H with ⟨c17, H⟩ | ⟨c17, H⟩
          ·
           have sJ : decide (0 < dM) = true := decide_eq_true c17
           clear c17
           replace H := nn H; obtain ⟨c18, H⟩ := H
           have vF := eq_true c18
           have I9 := decide_eq_true c18
           try have ZA : (9223372036854775807 < eP.size + 1) = False := eq_false (Nat.not_lt.2 c18)
           replace H := nn H; obtain ⟨c19, H⟩ := H
           have z_ := eq_true c19
           have Eb := decide_eq_true c19
           try have aCl : (9223372036854775807 < eP.size + 1 + t139.size) = False := by have h_ := (eq_false (Nat.not_lt.2 c19) : (9223372036854775807 < (eP ++ (⟨#[32]⟩ : ByteArray)).size + t139.size) = False); simp only [ByteArray.size_append] at h_; exact h_
           try have ai2 : (9223372036854775807 < (eP ++ (⟨#[32]⟩ : ByteArray)).size + t139.size) = False := eq_false (Nat.not_lt.2 c19)
           have H' := ak H; clear H
           go_wp2_with (first | (go_at_call 208; refine mB (jv.calls WV.out) ?_; intro w20 hb; replace HB := bs HB hb; clear hb) | (refine gB Tryz.func209 (iL.calls ZE.out) ?_; intro w21 hb; replace HB := bs HB hb; clear hb))
           go_roundg k2
           case measure => exact kl
           case rel => exact ⟨_, _, rs, rs, H', ⟨kl⟩, ⟨ul HB.out⟩⟩
          ·
           have sJ : decide (0 < dM) = false := decide_eq_false c17
           clear c17
           replace H := nn H; obtain ⟨c22, H⟩ := H
           have ES := eq_true c22
           have Za := decide_eq_true c22
           try have aCm : (9223372036854775807 < eP.size + t139.size) = False := eq_false (Nat.not_lt.2 c22)
           have H' := ak H; clear H
           go_wp2_with (first | (go_at_call 208; refine mB (jv.calls WV.out) ?_; intro w23 hb; replace HB := bs HB hb; clear hb) | (refine gB Tryz.func209 (iL.calls ZE.out) ?_; intro w24 hb; replace HB := bs HB hb; clear hb))
           go_roundg k2
           case measure => exact kl
           case rel => exact ⟨_, _, rs, rs, H', ⟨kl⟩, ⟨ul HB.out⟩⟩
        ·
         replace H := yL H; obtain ⟨Pg, adT, H⟩ := H; replace H := yL H; obtain ⟨MW, Zc, H⟩ := H; replace H := yL H; obtain ⟨EO, Y5, H⟩ := H; replace H := bd H
         obtain ⟨⟨t141, aHo⟩, A28, H⟩ := H
         (try dsimp only at H)
         replace H := sp H
         rcases H with ⟨c29, H⟩ | ⟨c29, H⟩
         ·
          have Y6 : decide (0 < dM) = true := decide_eq_true c29
          clear c29
          replace H := nn H; obtain ⟨c30, H⟩ := H
          have Y7 := eq_true c30
          have aCn := decide_eq_true c30
          try have aCo : (9223372036854775807 < eP.size + 1) = False := eq_false (Nat.not_lt.2 c30)
          replace H := nn H; obtain ⟨c31, H⟩ := H
          have aeb := eq_true c31
          have aec := decide_eq_true c31
          try have aCp : (9223372036854775807 < eP.size + 1 + t141.size) = False := by have h_ := (eq_false (Nat.not_lt.2 c31) : (9223372036854775807 < (eP ++ (⟨#[32]⟩ : ByteArray)).size + t141.size) = False); simp only [ByteArray.size_append] at h_; exact h_
          try have aCq : (9223372036854775807 < (eP ++ (⟨#[32]⟩ : ByteArray)).size + t141.size) = False := eq_false (Nat.not_lt.2 c31)
          have H' := ak H; clear H
          go_wp2_with (refine gB Tryz.func209 (iL.calls A28.out) ?_; intro w32 hb; replace HB := bs HB hb; clear hb)
          go_roundg k2
          case measure => exact kl
          case rel => exact ⟨_, _, rs, rs, H', ⟨kl⟩, ⟨ul HB.out⟩⟩
         ·
          have Y6 : decide (0 < dM) = false := decide_eq_false c29
          clear c29
          replace H := nn H; obtain ⟨c33, H⟩ := H
          have Rk := eq_true c33
          have adk := decide_eq_true c33
          try have aCr : (9223372036854775807 < eP.size + t141.size) = False := eq_false (Nat.not_lt.2 c33)
          have H' := ak H; clear H
          go_wp2_with (refine gB Tryz.func209 (iL.calls A28.out) ?_; intro w34 hb; replace HB := bs HB hb; clear hb)
          go_roundg k2
          case measure => exact kl
          case rel => exact ⟨_, _, rs, rs, H', ⟨kl⟩, ⟨ul HB.out⟩⟩
     ·
      obtain ⟨rfl, rfl⟩ := s2 H
      go_wp2
      go_ret2
      exact ⟨er, ul HB.out⟩
  ·
   obtain ⟨rfl, rfl⟩ := s2 H
   go_enter Tryz.func194, Tryz.ntmps194
   go_wp2_with (refine gA Tryz.func207 (gK.calls A3.out) ?_; intro nd)
   go_ret2
   exact ⟨er, ul HB.out⟩
def jG.l0 : Nat → ByteArray → Int → List ByteArray → Int → Int → Option (List ByteArray)
 | 0, _, _, _, _, _ => none
 | k + 1, x0, x1, x5, x6, x7 => if x7 < (x0.size : Int) then (if 0 ≤ x7 then (if (bt x0 x7) = x1 then (if 0 ≤ x6 then (if x6 ≤ x7 then (if x7 ≤ (x0.size : Int) then (if x5.length < 8796093022208 then (jG.l0 k x0 x1 (x5 ++ [x0.extract (x6 : Int).toNat (x7 : Int).toNat]) (wrap64 (x7 + 1)) (wrap64 (x7 + 1))) else (none)) else (none)) else (none)) else (none)) else (jG.l0 k x0 x1 x5 x6 (wrap64 (x7 + 1)))) else (none)) else (if 0 ≤ x6 then (if x6 ≤ (x0.size : Int) then (if x5.length < 8796093022208 then (some (x5 ++ [x0.extract (x6 : Int).toNat x0.size])) else (none)) else (none)) else (none))
def jG.f (k : Nat) (a0 : ByteArray) (a1 : Int) : Option (List ByteArray) := jG.l0 k a0 a1 (([] : List ByteArray)) 0 0
theorem jG.calls {k : Nat} {a0 : ByteArray} {a1 : Int} {r : List ByteArray} {w : World} (h : jG.f k a0 a1 = some r) :
  Calls Tryz.prog 217 #[.string a0, .int .u8 a1] w fun e w' => ∃ oV : Value, e = .returned (oV) ∧ Kd.R Kd.string 9 w' w.heap.size (fun _ => True) oV r ∧ Below w.heap.size w w' := by
 have HB := ak (Below.refl w.heap.size w)
 unfold jG.f at h; have H := h
 clear h
 obtain ⟨aHp, akb⟩ := nm ([] : List ByteArray)
 rw [← akb.out] at H
 have H' := ak H; clear H
 go_enter Tryz.func217, Tryz.ntmps217
 go_wp2_with (refine Gu 8 Kd.string 9 akb ?_; intro aHq w3 Ro hb; have aum := ak (Kd.aC Ro (aj (ul HB.out))); replace HB := bs HB hb; clear hb Ro)
 go_loopg [5, 6, 7] k (fun kq v5 v6 v7 w' => ∃ (dM : List ByteArray) (jy : Int) (ru : Int), v6 = .int .i64 jy ∧ v7 = .int .i64 ru ∧ ah (jG.l0 kq a0 a1 dM jy ru = some r) ∧ ah (kq ≤ k) ∧ ah (Kd.R Kd.string 9 w' w.heap.size (fun _ => True) v5 dM) ∧ ah (Below w.heap.size w w'))
 case atStart => exact ⟨_, _, _, rs, rs, H', ⟨Nat.le_refl _⟩, ⟨ur aum.out⟩, ⟨ul HB.out⟩⟩
 case round =>
  clear H'
  obtain ⟨dM, jy, ru, rfl, rfl, HA, xI, qg, HB⟩ := hrel
  cases gk with
  | zero => exact zz HA.out
  | succ k1 =>
   obtain ⟨H⟩ := HA
   simp only [jG.l0] at H
   replace H := sd H
   rcases H with ⟨mW, H⟩ | ⟨mW, H⟩
   ·
    replace H := oq H; obtain ⟨nN, H⟩ := H; replace H := sq H
    rcases H with ⟨tX, Eu, H⟩ | ⟨c8, tX, Eu, H⟩
    ·
     replace H := yL H; obtain ⟨xY, EN, H⟩ := H; replace H := yL H; obtain ⟨nY, rX, H⟩ := H; replace H := yL H; obtain ⟨t_, D7, H⟩ := H; replace H := nl H; obtain ⟨Vj, H⟩ := H
     obtain ⟨aHr, akc⟩ := nm (dM ++ [a0.extract (jy : Int).toNat (ru : Int).toNat])
     rw [← akc.out] at H
     have H' := ak H; clear H
     obtain ⟨p7, q7, hx7⟩ := bx a0 ru
     go_wp2_with (at_builtin; refine aP 20 25 Kd.string 23 9 (.string ⟨#[]⟩) 16 Tryz.underlying23 info9 HB (ur qg.out) akc (by have := Vj.out; omega) ?_; intro aHs w13 ho hb hg hat; have aun := ak (ho); replace HB := ak (hb); clear ho hb hg hat qg)
     go_roundg k1
     case measure => exact kl
     case rel => exact ⟨_, _, _, rs, rs, H', ⟨kl⟩, ⟨ur aun.out⟩, ⟨ul HB.out⟩⟩
    ·
     have H' := ak H; clear H
     obtain ⟨p7, q7, hx7⟩ := bx a0 ru
     go_wp2
     go_roundg k1
     case measure => exact kl
     case rel => exact ⟨_, _, _, rs, rs, H', ⟨kl⟩, ⟨ur qg.out⟩, ⟨ul HB.out⟩⟩
   ·
    replace H := yL H; obtain ⟨sH, wS, H⟩ := H; replace H := yL H; obtain ⟨vC, ER, H⟩ := H; replace H := nl H; obtain ⟨ads, H⟩ := H
    obtain ⟨aHt, akd⟩ := nm (dM ++ [a0.extract (jy : Int).toNat a0.size])
    rw [← akd.out] at H
    obtain rfl := s1 H
    go_wp2_with (at_builtin; refine aP 29 33 Kd.string 23 9 (.string ⟨#[]⟩) 16 Tryz.underlying23 info9 HB (ur qg.out) akd (by have := ads.out; omega) ?_; intro aHu w17 ho hb hg hat; have auo := ak (ho); replace HB := ak (hb); clear ho hb hg hat qg)
    go_ret
    exact ⟨_, er, ur auo.out, ul HB.out⟩
end Go.Proofs.YtncdadcmghglkaaGreatDoor.PFnPartLines
