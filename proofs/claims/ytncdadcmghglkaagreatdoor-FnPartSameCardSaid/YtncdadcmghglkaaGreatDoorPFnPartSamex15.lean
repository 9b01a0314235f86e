/- Printed walks; conditions: those in each statement. -/
import Derived.Test.YtncdadcmghglkaaGreatDoorVFnPartSameQt
import Derived.Test.YtncdadcmghglkaaGreatDoorVFnPartSameYt
import Derived.Test.YtncdadcmghglkaaGreatDoorPFnPartSamex0
import Derived.Test.YtncdadcmghglkaaGreatDoorPFnPartSamex14
-- short
-- dense
-- sq
-- sq2
namespace Go.Proofs.YtncdadcmghglkaaGreatDoor.PFnPartSame
open Go.RowKit Go.Proofs.YtncdadcmghglkaaGreatDoor.X Go.Proofs.YtncdadcmghglkaaGreatDoorW.PrintWords Go.Proofs.YtncdadcmghglkaaGreatDoorW.PrintLast Go.Proofs.YtncdadcmghglkaaGreatDoorW.PrintMore
attribute [local go_sem] max2_int min2_int max_two min_two max_three min_three max_four min_four   -- for this text's walks alone
set_option linter.unusedVariables false
set_option maxHeartbeats 8000000
set_option maxRecDepth 100000
set_option linter.unusedSimpArgs false
def spec_l5Hex.f (a0 : Int) : Option (ByteArray) := if 0 ≤ (a0 / 16) then (if (a0 / 16) ≤ (((a0 / 16) + 1) % 256) then (if (((a0 / 16) + 1) % 256) ≤ 16 then (if 1 + ((⟨#[48, 49, 50, 51, 52, 53, 54, 55, 56, 57, 65, 66, 67, 68, 69, 70]⟩ : ByteArray).extract ((a0 / 16) : Int).toNat ((((a0 / 16) + 1) % 256) : Int).toNat).size ≤ 9223372036854775807 then (if 0 ≤ (Go.bits .and .u8 a0 15) then (if (Go.bits .and .u8 a0 15) ≤ (((Go.bits .and .u8 a0 15) + 1) % 256) then (if (((Go.bits .and .u8 a0 15) + 1) % 256) ≤ 16 then (if ((⟨#[61]⟩ : ByteArray) ++ ((⟨#[48, 49, 50, 51, 52, 53, 54, 55, 56, 57, 65, 66, 67, 68, 69, 70]⟩ : ByteArray).extract ((a0 / 16) : Int).toNat ((((a0 / 16) + 1) % 256) : Int).toNat)).size + ((⟨#[48, 49, 50, 51, 52, 53, 54, 55, 56, 57, 65, 66, 67, 68, 69, 70]⟩ : ByteArray).extract ((Go.bits .and .u8 a0 15) : Int).toNat ((((Go.bits .and .u8 a0 15) + 1) % 256) : Int).toNat).size ≤ 9223372036854775807 then (some (((⟨#[61]⟩ : ByteArray) ++ ((⟨#[48, 49, 50, 51, 52, 53, 54, 55, 56, 57, 65, 66, 67, 68, 69, 70]⟩ : ByteArray).extract ((a0 / 16) : Int).toNat ((((a0 / 16) + 1) % 256) : Int).toNat)) ++ ((⟨#[48, 49, 50, 51, 52, 53, 54, 55, 56, 57, 65, 66, 67, 68, 69, 70]⟩ : ByteArray).extract ((Go.bits .and .u8 a0 15) : Int).toNat ((((Go.bits .and .u8 a0 15) + 1) % 256) : Int).toNat))) else (none)) else (none)) else (none)) else (none)) else (none)) else (none)) else (none)) else (none)
theorem spec_l5Hex.calls {a0 : Int} {r : ByteArray} {w : World} (h : spec_l5Hex.f a0 = some r) :
  Calls Tryz.prog 221 #[.int .u8 a0] w fun e w' => e = .returned (.string r) ∧ Drawn0 w w' := by
 have H : (if 0 ≤ (a0 / 16) then (if (a0 / 16) ≤ (((a0 / 16) + 1) % 256) then (if (((a0 / 16) + 1) % 256) ≤ 16 then (if 1 + ((⟨#[48, 49, 50, 51, 52, 53, 54, 55, 56, 57, 65, 66, 67, 68, 69, 70]⟩ : ByteArray).extract ((a0 / 16) : Int).toNat ((((a0 / 16) + 1) % 256) : Int).toNat).size ≤ 9223372036854775807 then (if 0 ≤ (Go.bits .and .u8 a0 15) then (if (Go.bits .and .u8 a0 15) ≤ (((Go.bits .and .u8 a0 15) + 1) % 256) then (if (((Go.bits .and .u8 a0 15) + 1) % 256) ≤ 16 then (if ((⟨#[61]⟩ : ByteArray) ++ ((⟨#[48, 49, 50, 51, 52, 53, 54, 55, 56, 57, 65, 66, 67, 68, 69, 70]⟩ : ByteArray).extract ((a0 / 16) : Int).toNat ((((a0 / 16) + 1) % 256) : Int).toNat)).size + ((⟨#[48, 49, 50, 51, 52, 53, 54, 55, 56, 57, 65, 66, 67, 68, 69, 70]⟩ : ByteArray).extract ((Go.bits .and .u8 a0 15) : Int).toNat ((((Go.bits .and .u8 a0 15) + 1) % 256) : Int).toNat).size ≤ 9223372036854775807 then (some (((⟨#[61]⟩ : ByteArray) ++ ((⟨#[48, 49, 50, 51, 52, 53, 54, 55, 56, 57, 65, 66, 67, 68, 69, 70]⟩ : ByteArray).extract ((a0 / 16) : Int).toNat ((((a0 / 16) + 1) % 256) : Int).toNat)) ++ ((⟨#[48, 49, 50, 51, 52, 53, 54, 55, 56, 57, 65, 66, 67, 68, 69, 70]⟩ : ByteArray).extract ((Go.bits .and .u8 a0 15) : Int).toNat ((((Go.bits .and .u8 a0 15) + 1) % 256) : Int).toNat))) else (none)) else (none)) else (none)) else (none)) else (none)) else (none)) else (none)) else (none)) = some r := h
 clear h
 obtain ⟨ji2, hji2⟩ : ∃ j_ : Int, (a0 / 16) = j_ := ⟨_, rfl⟩
 replace H : (if 0 ≤ (ji2) then (if (ji2) ≤ (((ji2) + 1) % 256) then (if (((ji2) + 1) % 256) ≤ 16 then (if 1 + ((⟨#[48, 49, 50, 51, 52, 53, 54, 55, 56, 57, 65, 66, 67, 68, 69, 70]⟩ : ByteArray).extract ((ji2) : Int).toNat ((((ji2) + 1) % 256) : Int).toNat).size ≤ 9223372036854775807 then (if 0 ≤ (Go.bits .and .u8 a0 15) then (if (Go.bits .and .u8 a0 15) ≤ (((Go.bits .and .u8 a0 15) + 1) % 256) then (if (((Go.bits .and .u8 a0 15) + 1) % 256) ≤ 16 then (if ((⟨#[61]⟩ : ByteArray) ++ ((⟨#[48, 49, 50, 51, 52, 53, 54, 55, 56, 57, 65, 66, 67, 68, 69, 70]⟩ : ByteArray).extract ((ji2) : Int).toNat ((((ji2) + 1) % 256) : Int).toNat)).size + ((⟨#[48, 49, 50, 51, 52, 53, 54, 55, 56, 57, 65, 66, 67, 68, 69, 70]⟩ : ByteArray).extract ((Go.bits .and .u8 a0 15) : Int).toNat ((((Go.bits .and .u8 a0 15) + 1) % 256) : Int).toNat).size ≤ 9223372036854775807 then (some (((⟨#[61]⟩ : ByteArray) ++ ((⟨#[48, 49, 50, 51, 52, 53, 54, 55, 56, 57, 65, 66, 67, 68, 69, 70]⟩ : ByteArray).extract ((ji2) : Int).toNat ((((ji2) + 1) % 256) : Int).toNat)) ++ ((⟨#[48, 49, 50, 51, 52, 53, 54, 55, 56, 57, 65, 66, 67, 68, 69, 70]⟩ : ByteArray).extract ((Go.bits .and .u8 a0 15) : Int).toNat ((((Go.bits .and .u8 a0 15) + 1) % 256) : Int).toNat))) else (none)) else (none)) else (none)) else (none)) else (none)) else (none)) else (none)) else (none)) = some r := by first | (rw [hji2] at H; exact H) | (simp only [hji2] at H ⊢; exact H)
 replace H := ne_ H; obtain ⟨c3b0, c3b1, H⟩ := H; replace H := nn H; obtain ⟨c4, H⟩ := H
 have c4b0 := eq_true c4
 have c4b1 := decide_eq_true c4
 replace H := nn H; obtain ⟨c5, H⟩ := H
 have c5b0 := eq_true c5
 have c5b1 := decide_eq_true c5
 replace H := nn H; obtain ⟨c6, H⟩ := H
 have c6b0 := eq_true c6
 have c6b1 := decide_eq_true c6
 try have c6b4 : (9223372036854775807 < 1 + (((⟨#[48, 49, 50, 51, 52, 53, 54, 55, 56, 57, 65, 66, 67, 68, 69, 70]⟩ : ByteArray).extract ((ji2) : Int).toNat ((((ji2) + 1) % 256) : Int).toNat).size)) = False := by have h_ := c6; simp only [ByteArray.size_append, ByteArray.size_extract] at h_; refine eq_false ?_; simp only [decide_eq_true_eq] at *; omega
 try have c6b2 : (9223372036854775807 < 1 + ((⟨#[48, 49, 50, 51, 52, 53, 54, 55, 56, 57, 65, 66, 67, 68, 69, 70]⟩ : ByteArray).extract ((ji2) : Int).toNat ((((ji2) + 1) % 256) : Int).toNat).size) = False := eq_false (Nat.not_lt.2 c6)
 replace H := ne_ H; obtain ⟨c7b0, c7b1, H⟩ := H; replace H := nn H; obtain ⟨c8, H⟩ := H
 have c8b0 := eq_true c8
 have c8b1 := decide_eq_true c8
 replace H := nn H; obtain ⟨c9, H⟩ := H
 have c9b0 := eq_true c9
 have c9b1 := decide_eq_true c9
 replace H := nn H; obtain ⟨c10, H⟩ := H
 have c10b0 := eq_true c10
 have c10b1 := decide_eq_true c10
 try have c10b4 : (9223372036854775807 < (⟨#[61]⟩ : ByteArray).size + (((⟨#[48, 49, 50, 51, 52, 53, 54, 55, 56, 57, 65, 66, 67, 68, 69, 70]⟩ : ByteArray).extract ((ji2) : Int).toNat ((((ji2) + 1) % 256) : Int).toNat).size) + (((⟨#[48, 49, 50, 51, 52, 53, 54, 55, 56, 57, 65, 66, 67, 68, 69, 70]⟩ : ByteArray).extract ((Go.bits .and .u8 a0 15) : Int).toNat ((((Go.bits .and .u8 a0 15) + 1) % 256) : Int).toNat).size)) = False := by have h_ := c10; simp only [ByteArray.size_append, ByteArray.size_extract] at h_; refine eq_false ?_; simp only [decide_eq_true_eq] at *; omega
 try have c10b3 : (9223372036854775807 < 1 + (((⟨#[48, 49, 50, 51, 52, 53, 54, 55, 56, 57, 65, 66, 67, 68, 69, 70]⟩ : ByteArray).extract ((ji2) : Int).toNat ((((ji2) + 1) % 256) : Int).toNat).size) + (((⟨#[48, 49, 50, 51, 52, 53, 54, 55, 56, 57, 65, 66, 67, 68, 69, 70]⟩ : ByteArray).extract ((Go.bits .and .u8 a0 15) : Int).toNat ((((Go.bits .and .u8 a0 15) + 1) % 256) : Int).toNat).size)) = False := by have h_ := (eq_false (Nat.not_lt.2 c10) : (9223372036854775807 < ((⟨#[61]⟩ : ByteArray) ++ ((⟨#[48, 49, 50, 51, 52, 53, 54, 55, 56, 57, 65, 66, 67, 68, 69, 70]⟩ : ByteArray).extract ((ji2) : Int).toNat ((((ji2) + 1) % 256) : Int).toNat)).size + ((⟨#[48, 49, 50, 51, 52, 53, 54, 55, 56, 57, 65, 66, 67, 68, 69, 70]⟩ : ByteArray).extract ((Go.bits .and .u8 a0 15) : Int).toNat ((((Go.bits .and .u8 a0 15) + 1) % 256) : Int).toNat).size) = False); simp only [ByteArray.size_append] at h_; exact h_
 try have c10b2 : (9223372036854775807 < ((⟨#[61]⟩ : ByteArray) ++ ((⟨#[48, 49, 50, 51, 52, 53, 54, 55, 56, 57, 65, 66, 67, 68, 69, 70]⟩ : ByteArray).extract ((ji2) : Int).toNat ((((ji2) + 1) % 256) : Int).toNat)).size + ((⟨#[48, 49, 50, 51, 52, 53, 54, 55, 56, 57, 65, 66, 67, 68, 69, 70]⟩ : ByteArray).extract ((Go.bits .and .u8 a0 15) : Int).toNat ((((Go.bits .and .u8 a0 15) + 1) % 256) : Int).toNat).size) = False := eq_false (Nat.not_lt.2 c10)
 obtain rfl := s1 H
 go_enter Tryz.func221, Tryz.ntmps221
 go_wp2
 repeat (go_quiet (fail); try go_wp2)
 go_ret
 exact ⟨by first | rfl | (simp; done) | (simp only [← hji2] <;> (first | rfl | simp)) | (simp [*]; done), dn⟩
def spec_l6Byte.f (a0 : Int) : Option (ByteArray) := if a0 = 32 then (some (⟨#[95]⟩ : ByteArray)) else ((spec_l1Letter.f a0).bind fun t387 => (if t387 = true then (some (strOfNums (([a0] : List Int)))) else (if a0 = 45 then (some (strOfNums (([a0] : List Int)))) else (if a0 = 46 then (some (strOfNums (([a0] : List Int)))) else ((spec_l5Hex.f a0).bind fun t397 => (some t397))))))
theorem spec_l6Byte.calls {a0 : Int} {r : ByteArray} {w : World} (h : spec_l6Byte.f a0 = some r) :
  Calls Tryz.prog 216 #[.int .u8 a0] w fun e w' => e = .returned (.string r) ∧ Below w.heap.size w w' := by
 have HB := ak (Below.refl w.heap.size w)
 have H : (if a0 = 32 then (some (⟨#[95]⟩ : ByteArray)) else ((spec_l1Letter.f a0).bind fun t387 => (if t387 = true then (some (strOfNums (([a0] : List Int)))) else (if a0 = 45 then (some (strOfNums (([a0] : List Int)))) else (if a0 = 46 then (some (strOfNums (([a0] : List Int)))) else ((spec_l5Hex.f a0).bind fun t397 => (some t397))))))) = some r := h
 clear h
 replace H := sq H
 rcases H with ⟨c2b0, c2b1, H⟩ | ⟨c2, c2b0, c2b1, H⟩
 ·
  obtain rfl := s1 H
  go_enter Tryz.func216, Tryz.ntmps216
  go_wp2
  go_ret
  exact ⟨er, ul HB.out⟩
 ·
  replace H := bd H; obtain ⟨t387, A3, H⟩ := H; replace H := sb H
  rcases H with ⟨rfl, H⟩ | ⟨rfl, H⟩
  ·
   obtain ⟨y388, Ny388⟩ := nm ([a0] : List Int)
   rw [← Ny388.out] at H
   obtain rfl := s1 H
   go_enter Tryz.func216, Tryz.ntmps216
   go_wp2_with (first | (refine gA Tryz.func183 (spec_l1Letter.calls A3.out) ?_; intro nd) | (refine lRM 16 (Kd.int .u8) 5 [.int .u8 a0] Ny388 (Reps.one (show Kd.M (Kd.int .u8) _ _ _ a0 [.int .u8 a0] from rfl) (Reps.none _ _)) ?_; intro v389 w5 ho6 hb; have HO390 := ak (Kd.R_lower ho6 (below_size (ul HB.out))); replace HB := bs HB hb; clear hb ho6; have hcv7 := own_string (P := Tryz.prog) Tryz.underlying22 Tryz.underlying5 Tryz.underlying9 (Kd.own_of_R HO390.out)))
   go_ret
   exact ⟨er, ul HB.out⟩
  ·
   replace H := sq H
   rcases H with ⟨c8b0, c8b1, H⟩ | ⟨c8, c8b0, c8b1, H⟩
   ·
    obtain ⟨y391, Ny391⟩ := nm ([a0] : List Int)
    rw [← Ny391.out] at H
    obtain rfl := s1 H
    go_enter Tryz.func216, Tryz.ntmps216
    go_wp2_with (first | (refine gA Tryz.func183 (spec_l1Letter.calls A3.out) ?_; intro nd) | (refine lRM 16 (Kd.int .u8) 5 [.int .u8 a0] Ny391 (Reps.one (show Kd.M (Kd.int .u8) _ _ _ a0 [.int .u8 a0] from rfl) (Reps.none _ _)) ?_; intro v392 w9 ho10 hb; have HO393 := ak (Kd.R_lower ho10 (below_size (ul HB.out))); replace HB := bs HB hb; clear hb ho10; have hcv11 := own_string (P := Tryz.prog) Tryz.underlying22 Tryz.underlying5 Tryz.underlying9 (Kd.own_of_R HO393.out)))
    go_ret
    exact ⟨er, ul HB.out⟩
   ·
    replace H := sq H
    rcases H with ⟨c12b0, c12b1, H⟩ | ⟨c12, c12b0, c12b1, H⟩
    ·
     obtain ⟨y394, Ny394⟩ := nm ([a0] : List Int)
     rw [← Ny394.out] at H
     obtain rfl := s1 H
     go_enter Tryz.func216, Tryz.ntmps216
     go_wp2_with (first | (refine gA Tryz.func183 (spec_l1Letter.calls A3.out) ?_; intro nd) | (refine lRM 16 (Kd.int .u8) 5 [.int .u8 a0] Ny394 (Reps.one (show Kd.M (Kd.int .u8) _ _ _ a0 [.int .u8 a0] from rfl) (Reps.none _ _)) ?_; intro v395 w13 ho14 hb; have HO396 := ak (Kd.R_lower ho14 (below_size (ul HB.out))); replace HB := bs HB hb; clear hb ho14; have hcv15 := own_string (P := Tryz.prog) Tryz.underlying22 Tryz.underlying5 Tryz.underlying9 (Kd.own_of_R HO396.out)))
     go_ret
     exact ⟨er, ul HB.out⟩
    ·
     replace H := bd H; obtain ⟨t397, A16, H⟩ := H
     obtain rfl := s1 H
     go_enter Tryz.func216, Tryz.ntmps216
     go_wp2_with (first | (refine gA Tryz.func183 (spec_l1Letter.calls A3.out) ?_; intro nd) | (refine gA Tryz.func221 (spec_l5Hex.calls A16.out) ?_; intro nd))
     go_ret
     exact ⟨er, ul HB.out⟩
def spec_l6Code.l0 : Nat → ByteArray → ByteArray → Int → Option (ByteArray)
 | 0, _, _, _ => none
 | k + 1, x0, x3, x4 => if x4 < (x0.size : Int) then (if 0 ≤ x4 then ((spec_l6Byte.f (bt x0 x4)).bind fun t398 => (if x3.size + t398.size ≤ 9223372036854775807 then (spec_l6Code.l0 k x0 (x3 ++ t398) (wrap64 (x4 + 1))) else (none))) else (none)) else (some x3)
def spec_l6Code.f (k : Nat) (a0 : ByteArray) : Option (ByteArray) := spec_l6Code.l0 k a0 (⟨#[]⟩ : ByteArray) 0
theorem spec_l6Code.calls {k : Nat} {a0 r : ByteArray} {w : World} (h : spec_l6Code.f k a0 = some r) :
  Calls Tryz.prog 208 #[.string a0] w fun e w' => e = .returned (.string r) ∧ Below w.heap.size w w' := by
 have HB := ak (Below.refl w.heap.size w)
 have H : (spec_l6Code.l0 k a0 (⟨#[]⟩ : ByteArray) 0) = some r := h
 clear h
 have H' := ak H; clear H
 go_enter Tryz.func208, Tryz.ntmps208
 go_wp2
 go_loopg [3, 4] k (fun kq v3 v4 w' => ∃ (x3_1 : ByteArray) (x4_1 : Int), v3 = .string x3_1 ∧ v4 = .int .i64 x4_1 ∧ Aside0 (spec_l6Code.l0 kq a0 x3_1 x4_1 = some r) ∧ Aside0 (kq ≤ k) ∧ Aside0 (Below w.heap.size w w'))
 case atStart => exact ⟨_, _, rs, rs, H', ⟨Nat.le_refl _⟩, ⟨ul HB.out⟩⟩
 case round =>
  clear H'
  obtain ⟨x3_1, x4_1, rfl, rfl, HA, HK1, HB⟩ := hrel
  cases gk with
  | zero => exact zz HA.out
  | succ k1 =>
   obtain ⟨H⟩ := HA
   simp only [spec_l6Code.l0] at H
   replace H := sd H
   rcases H with ⟨c2b0, H⟩ | ⟨c2b0, H⟩
   ·
    replace H := nde H; obtain ⟨c3b0, H⟩ := H; replace H := bd H; obtain ⟨t398, A5, H⟩ := H; replace H := nn H; obtain ⟨c6, H⟩ := H
    have c6b0 := eq_true c6
    have c6b1 := decide_eq_true c6
    try have c6b2 : (9223372036854775807 < x3_1.size + t398.size) = False := eq_false (Nat.not_lt.2 c6)
    have H' := ak H; clear H
    obtain ⟨p4, q4, hx4⟩ := bx a0 x4_1
    go_wp2_with (refine gB Tryz.func216 (spec_l6Byte.calls A5.out) ?_; intro w7 hb; replace HB := bs HB hb; clear hb)
    go_roundg k1
    case measure => exact kl
    case rel => exact ⟨_, _, rs, rs, H', ⟨kl⟩, ⟨ul HB.out⟩⟩
   ·
    obtain rfl := s1 H
    go_wp2
    go_ret
    exact ⟨er, ul HB.out⟩
def spec_CodeWord.j0 : Nat → ByteArray → Bool → Option (ByteArray × Bool)
 | 0, _, _ => none
 | k + 1, x0, x12 => if x12 = true then (some ((⟨#[]⟩ : ByteArray), false)) else ((spec_l6Code.f k x0).bind fun t399 => (if 10 + t399.size ≤ 9223372036854775807 then (if ((⟨#[61, 63, 117, 116, 102, 45, 56, 63, 113, 63]⟩ : ByteArray) ++ t399).size + 2 ≤ 9223372036854775807 then (if ((((⟨#[61, 63, 117, 116, 102, 45, 56, 63, 113, 63]⟩ : ByteArray) ++ t399) ++ (⟨#[63, 61]⟩ : ByteArray)).size : Int) > 40 then (some ((⟨#[]⟩ : ByteArray), false)) else (some (((⟨#[61, 63, 117, 116, 102, 45, 56, 63, 113, 63]⟩ : ByteArray) ++ t399) ++ (⟨#[63, 61]⟩ : ByteArray), true))) else (none)) else (none)))
def spec_CodeWord.f (k : Nat) (a0 : ByteArray) : Option (ByteArray × Bool) := if (a0.size : Int) < 1 then (spec_CodeWord.j0 k a0 true) else (spec_CodeWord.j0 k a0 (decide ((a0.size : Int) > 40)))
theorem spec_CodeWord.calls {k : Nat} {a0 r1 : ByteArray} {r2 : Bool} {w : World} (h : spec_CodeWord.f k a0 = some (r1, r2)) :
  Calls Tryz.prog 209 #[.string a0] w fun e w' => e = .returned (.tuple #[.string r1, .bool r2]) ∧ Below w.heap.size w w' := by
 have HB := ak (Below.refl w.heap.size w)
 have H : (if (a0.size : Int) < 1 then (spec_CodeWord.j0 k a0 true) else (spec_CodeWord.j0 k a0 (decide ((a0.size : Int) > 40)))) = some (r1, r2) := h
 clear h
 have HC2 := ak H
 clear H
 go_enter Tryz.func209, Tryz.ntmps209
 go_upto_region 1 with (fail)
 go_cut [12] (fun v12 wc => ∃ (kq : Nat) (x12_1 : Bool), v12 = .bool x12_1 ∧ Aside0 (spec_CodeWord.j0 kq a0 x12_1 = some (r1, r2)) ∧ Aside0 (kq ≤ k) ∧ Aside0 (Below w.heap.size w wc))
 case first =>
  have H := HC2.out
  clear HC2
  replace H := sp H
  rcases H with ⟨c3, H⟩ | ⟨c3, H⟩
  ·
   have c3b0 := decide_eq_true c3
   have c3b1 : decide (a0.size < 1) = true := decide_eq_true (by omega)
   clear c3
   (first | rw [c3b0] | (simp only [i64_w, i32_w]; rw [c3b0]) | skip)
   have H' := ak H; clear H
   go_wp2
   go_meet
   case rel => exact ⟨_, _, rs, H', ⟨le_⟩, ⟨ul HB.out⟩⟩
  ·
   have c3b0 := decide_eq_false c3
   have c3b1 : decide (a0.size < 1) = false := decide_eq_false (by omega)
   clear c3
   (first | rw [c3b0] | (simp only [i64_w, i32_w]; rw [c3b0]) | skip)
   have H' := ak H; clear H
   go_wp2
   go_meet
   case rel => exact ⟨_, _, rs, H', ⟨le_⟩, ⟨ul HB.out⟩⟩
 case rest =>
  clear HC2
  obtain ⟨kq, x12_1, rfl, HA, HJ1, HB⟩ := hcut
  cases kq with
  | zero => exact zz HA.out
  | succ kj1 =>
   obtain ⟨H⟩ := HA
   simp only [spec_CodeWord.j0] at H
   replace H := sb H
   rcases H with ⟨rfl, H⟩ | ⟨rfl, H⟩
   ·
    obtain ⟨rfl, rfl⟩ := s2 H
    go_wp2
    go_ret2
    exact ⟨er, ul HB.out⟩
   ·
    replace H := bd H; obtain ⟨t399, A5, H⟩ := H; replace H := nn H; obtain ⟨c6, H⟩ := H
    have c6b0 := eq_true c6
    have c6b1 := decide_eq_true c6
    try have c6b2 : (9223372036854775807 < 10 + t399.size) = False := eq_false (Nat.not_lt.2 c6)
    replace H := nn H; obtain ⟨c7, H⟩ := H
    have c7b0 := eq_true c7
    have c7b1 := decide_eq_true c7
    try have c7b3 : (9223372036854775807 < 10 + t399.size + 2) = False := by have h_ := (eq_false (Nat.not_lt.2 c7) : (9223372036854775807 < ((⟨#[61, 63, 117, 116, 102, 45, 56, 63, 113, 63]⟩ : ByteArray) ++ t399).size + 2) = False); simp only [ByteArray.size_append] at h_; exact h_
    try have c7b2 : (9223372036854775807 < ((⟨#[61, 63, 117, 116, 102, 45, 56, 63, 113, 63]⟩ : ByteArray) ++ t399).size + 2) = False := eq_false (Nat.not_lt.2 c7)
    replace H := sp H
    rcases H with ⟨c8, H⟩ | ⟨c8, H⟩
    ·
     have c8b0 : decide (40 < ((((⟨#[61, 63, 117, 116, 102, 45, 56, 63, 113, 63]⟩ : ByteArray) ++ t399) ++ (⟨#[63, 61]⟩ : ByteArray)).size : Int)) = true := decide_eq_true c8
     have c8b1 : decide (40 < (((⟨#[61, 63, 117, 116, 102, 45, 56, 63, 113, 63]⟩ : ByteArray) ++ t399) ++ (⟨#[63, 61]⟩ : ByteArray)).size) = true := decide_eq_true (by omega)
     (try (have c8b2 : decide (40 < 10 + (t399.size : Int) + 2) = true := decide_eq_true (by have e0_ : (((⟨#[61, 63, 117, 116, 102, 45, 56, 63, 113, 63]⟩ : ByteArray) ++ t399) ++ (⟨#[63, 61]⟩ : ByteArray)).size = 10 + t399.size + 2 := (by first | (simp only [ByteArray.size_append]; rfl) | simp only [ByteArray.size_append]); omega)))
     (try (have c8b3 : decide (40 < 10 + t399.size + 2) = true := decide_eq_true (by have e0_ : (((⟨#[61, 63, 117, 116, 102, 45, 56, 63, 113, 63]⟩ : ByteArray) ++ t399) ++ (⟨#[63, 61]⟩ : ByteArray)).size = 10 + t399.size + 2 := (by first | (simp only [ByteArray.size_append]; rfl) | simp only [ByteArray.size_append]); omega)))
     clear c8
     obtain ⟨rfl, rfl⟩ := s2 H
     go_wp2_with (refine gB Tryz.func208 (spec_l6Code.calls A5.out) ?_; intro w9 hb; replace HB := bs HB hb; clear hb)
     go_ret2
     exact ⟨er, ul HB.out⟩
    ·
     have c8b0 : decide (40 < ((((⟨#[61, 63, 117, 116, 102, 45, 56, 63, 113, 63]⟩ : ByteArray) ++ t399) ++ (⟨#[63, 61]⟩ : ByteArray)).size : Int)) = false := decide_eq_false c8
     have c8b1 : decide (40 < (((⟨#[61, 63, 117, 116, 102, 45, 56, 63, 113, 63]⟩ : ByteArray) ++ t399) ++ (⟨#[63, 61]⟩ : ByteArray)).size) = false := decide_eq_false (by omega)
     (try (have c8b2 : decide (40 < 10 + (t399.size : Int) + 2) = false := decide_eq_false (by have e0_ : (((⟨#[61, 63, 117, 116, 102, 45, 56, 63, 113, 63]⟩ : ByteArray) ++ t399) ++ (⟨#[63, 61]⟩ : ByteArray)).size = 10 + t399.size + 2 := (by first | (simp only [ByteArray.size_append]; rfl) | simp only [ByteArray.size_append]); omega)))
     (try (have c8b3 : decide (40 < 10 + t399.size + 2) = false := decide_eq_false (by have e0_ : (((⟨#[61, 63, 117, 116, 102, 45, 56, 63, 113, 63]⟩ : ByteArray) ++ t399) ++ (⟨#[63, 61]⟩ : ByteArray)).size = 10 + t399.size + 2 := (by first | (simp only [ByteArray.size_append]; rfl) | simp only [ByteArray.size_append]); omega)))
     clear c8
     obtain ⟨rfl, rfl⟩ := s2 H
     go_wp2_with (refine gB Tryz.func208 (spec_l6Code.calls A5.out) ?_; intro w10 hb; replace HB := bs HB hb; clear hb)
     go_ret2
     exact ⟨er, ul HB.out⟩
mutual
def spec_EncodeName.l0 : Nat → ByteArray → ByteArray → Int → Option (ByteArray × Bool)
 | 0, _, _, _ => none
 | k + 1, x0, x4, x5 => if x5 < (x0.size : Int) then (spec_EncodeName.l1 k x0 x4 x5 (wrap64 (x5 + 1))) else (some (x4, true))
def spec_EncodeName.l1 : Nat → ByteArray → ByteArray → Int → Int → Option (ByteArray × Bool)
 | 0, _, _, _, _ => none
 | k + 1, x0, x4, x5, x6 => if x6 < (x0.size : Int) then (if 0 ≤ x5 then (if x5 ≤ (wrap64 (x6 + 1)) then (if (wrap64 (x6 + 1)) ≤ (x0.size : Int) then ((spec_l6Code.f k (x0.extract (x5 : Int).toNat ((wrap64 (x6 + 1)) : Int).toNat)).bind fun t401 => (if (t401.size : Int) ≤ 28 then (spec_EncodeName.l1 k x0 x4 x5 (wrap64 (x6 + 1))) else (if x5 ≤ x6 then (if x6 ≤ (x0.size : Int) then ((spec_CodeWord.f k (x0.extract (x5 : Int).toNat (x6 : Int).toNat)).bind fun bt402 => (if x5 > 0 then (if x4.size + 1 ≤ 9223372036854775807 then (if (x4 ++ (⟨#[32]⟩ : ByteArray)).size + bt402.1.size ≤ 9223372036854775807 then (spec_EncodeName.l0 k x0 ((x4 ++ (⟨#[32]⟩ : ByteArray)) ++ bt402.1) x6) else (none)) else (none)) else (if x4.size + bt402.1.size ≤ 9223372036854775807 then (spec_EncodeName.l0 k x0 (x4 ++ bt402.1) x6) else (none)))) else (none)) else (none)))) else (none)) else (none)) else (none)) else (if 0 ≤ x5 then (if x5 ≤ x6 then (if x6 ≤ (x0.size : Int) then ((spec_CodeWord.f k (x0.extract (x5 : Int).toNat (x6 : Int).toNat)).bind fun bt404 => (if x5 > 0 then (if x4.size + 1 ≤ 9223372036854775807 then (if (x4 ++ (⟨#[32]⟩ : ByteArray)).size + bt404.1.size ≤ 9223372036854775807 then (spec_EncodeName.l0 k x0 ((x4 ++ (⟨#[32]⟩ : ByteArray)) ++ bt404.1) x6) else (none)) else (none)) else (if x4.size + bt404.1.size ≤ 9223372036854775807 then (spec_EncodeName.l0 k x0 (x4 ++ bt404.1) x6) else (none)))) else (none)) else (none)) else (none))
end
def spec_EncodeName.f (k : Nat) (a0 : ByteArray) : Option (ByteArray × Bool) := if (a0.size : Int) > 120 then (some ((⟨#[]⟩ : ByteArray), false)) else ((spec_NeedsCode.f k a0).bind fun t400 => (if t400 = true then (spec_EncodeName.l0 k a0 (⟨#[]⟩ : ByteArray) 0) else (some (a0, true))))
theorem spec_EncodeName.calls {k : Nat} {a0 r1 : ByteArray} {r2 : Bool} {w : World} (h : spec_EncodeName.f k a0 = some (r1, r2)) :
  Calls Tryz.prog 194 #[.string a0] w fun e w' => e = .returned (.tuple #[.string r1, .bool r2]) ∧ Below w.heap.size w w' := by
 have HB := ak (Below.refl w.heap.size w)
 have H : (if (a0.size : Int) > 120 then (some ((⟨#[]⟩ : ByteArray), false)) else ((spec_NeedsCode.f k a0).bind fun t400 => (if t400 = true then (spec_EncodeName.l0 k a0 (⟨#[]⟩ : ByteArray) 0) else (some (a0, true))))) = some (r1, r2) := h
 clear h
 replace H := sp H
 rcases H with ⟨c2, H⟩ | ⟨c2, H⟩
 ·
  have c2b0 : decide (120 < (a0.size : Int)) = true := decide_eq_true c2
  have c2b1 : decide (120 < a0.size) = true := decide_eq_true (by omega)
  clear c2
  obtain ⟨rfl, rfl⟩ := s2 H
  go_enter Tryz.func194, Tryz.ntmps194
  go_wp2
  go_ret2
  exact ⟨er, ul HB.out⟩
 ·
  have c2b0 : decide (120 < (a0.size : Int)) = false := decide_eq_false c2
  have c2b1 : decide (120 < a0.size) = false := decide_eq_false (by omega)
  clear c2
  replace H := bd H; obtain ⟨t400, A3, H⟩ := H; replace H := sb H
  rcases H with ⟨rfl, H⟩ | ⟨rfl, H⟩
  ·
   have H' := ak H; clear H
   go_enter Tryz.func194, Tryz.ntmps194
   go_wp2_with (refine gA Tryz.func207 (spec_NeedsCode.calls A3.out) ?_; intro nd)
   go_loopg [4, 5] k (fun kq v4 v5 w' => ∃ (x4_1 : ByteArray) (x5_1 : Int), v4 = .string x4_1 ∧ v5 = .int .i64 x5_1 ∧ Aside0 (spec_EncodeName.l0 kq a0 x4_1 x5_1 = some (r1, r2)) ∧ Aside0 (kq ≤ k) ∧ Aside0 (Below w.heap.size w w'))
   case atStart => exact ⟨_, _, rs, rs, H', ⟨Nat.le_refl _⟩, ⟨ul HB.out⟩⟩
   case round =>
    clear H'
    try clear c2
    try clear c2b0
    try clear c2b1
    obtain ⟨x4_1, x5_1, rfl, rfl, HA, HK1, HB⟩ := hrel
    cases gk with
    | zero => exact zz HA.out
    | succ k1 =>
     obtain ⟨H⟩ := HA
     simp only [spec_EncodeName.l0] at H
     replace H := sd H
     rcases H with ⟨c5b0, H⟩ | ⟨c5b0, H⟩
     ·
      have H' := ak H; clear H
      go_wp2
      go_loopg [6] k1 (fun kq v6 w' => ∃ (x6_2 : Int), v6 = .int .i64 x6_2 ∧ Aside0 (spec_EncodeName.l1 kq a0 x4_1 x5_1 x6_2 = some (r1, r2)) ∧ Aside0 (kq ≤ k1) ∧ Aside0 (Below w.heap.size w w'))
      case atStart => exact ⟨_, rs, H', ⟨Nat.le_refl _⟩, ⟨ul HB.out⟩⟩
      case round =>
       clear H'
       try clear c2
       try clear c2b0
       try clear c2b1
       try clear c5b0
       obtain ⟨x6_2, rfl, HA, HK2, HB⟩ := hrel
       cases gk with
       | zero => exact zz HA.out
       | succ k2 =>
        obtain ⟨H⟩ := HA
        simp only [spec_EncodeName.l1] at H
        replace H := sd H
        rcases H with ⟨c6b0, H⟩ | ⟨c6b0, H⟩
        ·
         replace H := ne_ H; obtain ⟨c7b0, c7b1, H⟩ := H; replace H := nn H; obtain ⟨c8, H⟩ := H
         have c8b0 := eq_true c8
         have c8b1 := decide_eq_true c8
         replace H := nn H; obtain ⟨c9, H⟩ := H
         have c9b0 := eq_true c9
         have c9b1 := decide_eq_true c9
         replace H := bd H; obtain ⟨t401, A10, H⟩ := H; replace H := sp H
         rcases H with ⟨c11, H⟩ | ⟨c11, H⟩
         ·
          have c11b0 := decide_eq_true c11
          have c11b1 : decide (t401.size ≤ 28) = true := decide_eq_true (by omega)
          clear c11
          have H' := ak H; clear H
          go_wp2_with (go_at_call 208; refine mB (spec_l6Code.calls A10.out) ?_; intro w12 hb; replace HB := bs HB hb; clear hb)
          go_roundg k2
          case measure => exact kl
          case rel => exact ⟨_, rs, H', ⟨kl⟩, ⟨ul HB.out⟩⟩
         ·
          have c11b0 := decide_eq_false c11
          have c11b1 : decide (t401.size ≤ 28) = false := decide_eq_false (by omega)
          clear c11
          have c13b0 := eq_true (of_decide_eq_true (by assumption) : 0 ≤ x5_1)
          replace H := ne_ H; obtain ⟨c14b0, c14b1, H⟩ := H; replace H := ne_ H; obtain ⟨c15b0, c15b1, H⟩ := H; replace H := bd H
          obtain ⟨⟨t402, t403⟩, A16, H⟩ := H
          (try dsimp only at H)
          replace H := sp H
          rcases H with ⟨c17, H⟩ | ⟨c17, H⟩
          ·
           have c17b0 : decide (0 < x5_1) = true := decide_eq_true c17
           clear c17
           replace H := nn H; obtain ⟨c18, H⟩ := H
           have c18b0 := eq_true c18
           have c18b1 := decide_eq_true c18
           try have c18b2 : (9223372036854775807 < x4_1.size + 1) = False := eq_false (Nat.not_lt.2 c18)
           replace H := nn H; obtain ⟨c19, H⟩ := H
           have c19b0 := eq_true c19
           have c19b1 := decide_eq_true c19
           try have c19b3 : (9223372036854775807 < x4_1.size + 1 + t402.size) = False := by have h_ := (eq_false (Nat.not_lt.2 c19) : (9223372036854775807 < (x4_1 ++ (⟨#[32]⟩ : ByteArray)).size + t402.size) = False); simp only [ByteArray.size_append] at h_; exact h_
           try have c19b2 : (9223372036854775807 < (x4_1 ++ (⟨#[32]⟩ : ByteArray)).size + t402.size) = False := eq_false (Nat.not_lt.2 c19)
           have H' := ak H; clear H
           go_wp2_with (first | (go_at_call 208; refine mB (spec_l6Code.calls A10.out) ?_; intro w20 hb; replace HB := bs HB hb; clear hb) | (refine gB Tryz.func209 (spec_CodeWord.calls A16.out) ?_; intro w21 hb; replace HB := bs HB hb; clear hb))
           go_roundg k2
           case measure => exact kl
           case rel => exact ⟨_, _, rs, rs, H', ⟨kl⟩, ⟨ul HB.out⟩⟩
          ·
           have c17b0 : decide (0 < x5_1) = false := decide_eq_false c17
           clear c17
           replace H := nn H; obtain ⟨c22, H⟩ := H
           have c22b0 := eq_true c22
           have c22b1 := decide_eq_true c22
           try have c22b2 : (9223372036854775807 < x4_1.size + t402.size) = False := eq_false (Nat.not_lt.2 c22)
           have H' := ak H; clear H
           go_wp2_with (first | (go_at_call 208; refine mB (spec_l6Code.calls A10.out) ?_; intro w23 hb; replace HB := bs HB hb; clear hb) | (refine gB Tryz.func209 (spec_CodeWord.calls A16.out) ?_; intro w24 hb; replace HB := bs HB hb; clear hb))
           go_roundg k2
           case measure => exact kl
           case rel => exact ⟨_, _, rs, rs, H', ⟨kl⟩, ⟨ul HB.out⟩⟩
        ·
         replace H := ne_ H; obtain ⟨c25b0, c25b1, H⟩ := H; replace H := ne_ H; obtain ⟨c26b0, c26b1, H⟩ := H; replace H := ne_ H; obtain ⟨c27b0, c27b1, H⟩ := H; replace H := bd H
         obtain ⟨⟨t404, t405⟩, A28, H⟩ := H
         (try dsimp only at H)
         replace H := sp H
         rcases H with ⟨c29, H⟩ | ⟨c29, H⟩
         ·
          have c29b0 : decide (0 < x5_1) = true := decide_eq_true c29
          clear c29
          replace H := nn H; obtain ⟨c30, H⟩ := H
          have c30b0 := eq_true c30
          have c30b1 := decide_eq_true c30
          try have c30b2 : (9223372036854775807 < x4_1.size + 1) = False := eq_false (Nat.not_lt.2 c30)
          replace H := nn H; obtain ⟨c31, H⟩ := H
          have c31b0 := eq_true c31
          have c31b1 := decide_eq_true c31
          try have c31b3 : (9223372036854775807 < x4_1.size + 1 + t404.size) = False := by have h_ := (eq_false (Nat.not_lt.2 c31) : (9223372036854775807 < (x4_1 ++ (⟨#[32]⟩ : ByteArray)).size + t404.size) = False); simp only [ByteArray.size_append] at h_; exact h_
          try have c31b2 : (9223372036854775807 < (x4_1 ++ (⟨#[32]⟩ : ByteArray)).size + t404.size) = False := eq_false (Nat.not_lt.2 c31)
          have H' := ak H; clear H
          go_wp2_with (refine gB Tryz.func209 (spec_CodeWord.calls A28.out) ?_; intro w32 hb; replace HB := bs HB hb; clear hb)
          go_roundg k2
          case measure => exact kl
          case rel => exact ⟨_, _, rs, rs, H', ⟨kl⟩, ⟨ul HB.out⟩⟩
         ·
          have c29b0 : decide (0 < x5_1) = false := decide_eq_false c29
          clear c29
          replace H := nn H; obtain ⟨c33, H⟩ := H
          have c33b0 := eq_true c33
          have c33b1 := decide_eq_true c33
          try have c33b2 : (9223372036854775807 < x4_1.size + t404.size) = False := eq_false (Nat.not_lt.2 c33)
          have H' := ak H; clear H
          go_wp2_with (refine gB Tryz.func209 (spec_CodeWord.calls A28.out) ?_; intro w34 hb; replace HB := bs HB hb; clear hb)
          go_roundg k2
          case measure => exact kl
          case rel => exact ⟨_, _, rs, rs, H', ⟨kl⟩, ⟨ul HB.out⟩⟩
     ·
      obtain ⟨rfl, rfl⟩ := s2 H
      go_wp2
      go_ret2
      exact ⟨er, ul HB.out⟩
  ·
   obtain ⟨rfl, rfl⟩ := s2 H
   go_enter Tryz.func194, Tryz.ntmps194
   go_wp2_with (refine gA Tryz.func207 (spec_NeedsCode.calls A3.out) ?_; intro nd)
   go_ret2
   exact ⟨er, ul HB.out⟩
def spec_l2Parts.l0 : Nat → ByteArray → Int → List ByteArray → Int → Int → Option (List ByteArray)
 | 0, _, _, _, _, _ => none
 | k + 1, x0, x1, x5, x6, x7 => if x7 < (x0.size : Int) then (if 0 ≤ x7 then (if (bt x0 x7) = x1 then (if 0 ≤ x6 then (if x6 ≤ x7 then (if x7 ≤ (x0.size : Int) then (if x5.length < 8796093022208 then (spec_l2Parts.l0 k x0 x1 (x5 ++ [x0.extract (x6 : Int).toNat (x7 : Int).toNat]) (wrap64 (x7 + 1)) (wrap64 (x7 + 1))) else (none)) else (none)) else (none)) else (none)) else (spec_l2Parts.l0 k x0 x1 x5 x6 (wrap64 (x7 + 1)))) else (none)) else (if 0 ≤ x6 then (if x6 ≤ (x0.size : Int) then (if x5.length < 8796093022208 then (some (x5 ++ [x0.extract (x6 : Int).toNat x0.size])) else (none)) else (none)) else (none))
def spec_l2Parts.f (k : Nat) (a0 : ByteArray) (a1 : Int) : Option (List ByteArray) := spec_l2Parts.l0 k a0 a1 (([] : List ByteArray)) 0 0
theorem spec_l2Parts.calls {k : Nat} {a0 : ByteArray} {a1 : Int} {r : List ByteArray} {w : World} (h : spec_l2Parts.f k a0 a1 = some r) :
  Calls Tryz.prog 217 #[.string a0, .int .u8 a1] w fun e w' => ∃ v0_ : Value, e = .returned (v0_) ∧ Kd.R Kd.string 9 w' w.heap.size (fun _ => True) v0_ r ∧ Below w.heap.size w w' := by
 have HB := ak (Below.refl w.heap.size w)
 have H : (spec_l2Parts.l0 k a0 a1 (([] : List ByteArray)) 0 0) = some r := h
 clear h
 obtain ⟨y406, Ny406⟩ := nm ([] : List ByteArray)
 rw [← Ny406.out] at H
 have H' := ak H; clear H
 go_enter Tryz.func217, Tryz.ntmps217
 go_wp2_with (refine lRN 8 Kd.string 9 Ny406 ?_; intro v407 w3 ho4 hb; have HO408 := ak (Kd.R_lower ho4 (below_size (ul HB.out))); replace HB := bs HB hb; clear hb ho4)
 go_loopg [5, 6, 7] k (fun kq v5 v6 v7 w' => ∃ (x5_1 : List ByteArray) (x6_1 : Int) (x7_1 : Int), v6 = .int .i64 x6_1 ∧ v7 = .int .i64 x7_1 ∧ Aside0 (spec_l2Parts.l0 kq a0 a1 x5_1 x6_1 x7_1 = some r) ∧ Aside0 (kq ≤ k) ∧ Aside0 (Kd.R Kd.string 9 w' w.heap.size (fun _ => True) v5 x5_1) ∧ Aside0 (Below w.heap.size w w'))
 case atStart => exact ⟨_, _, _, rs, rs, H', ⟨Nat.le_refl _⟩, ⟨ur HO408.out⟩, ⟨ul HB.out⟩⟩
 case round =>
  clear H'
  obtain ⟨x5_1, x6_1, x7_1, rfl, rfl, HA, HK1, HO_5, HB⟩ := hrel
  cases gk with
  | zero => exact zz HA.out
  | succ k1 =>
   obtain ⟨H⟩ := HA
   simp only [spec_l2Parts.l0] at H
   replace H := sd H
   rcases H with ⟨c5b0, H⟩ | ⟨c5b0, H⟩
   ·
    replace H := nde H; obtain ⟨c6b0, H⟩ := H; replace H := sq H
    rcases H with ⟨c8b0, c8b1, H⟩ | ⟨c8, c8b0, c8b1, H⟩
    ·
     replace H := ne_ H; obtain ⟨c9b0, c9b1, H⟩ := H; replace H := ne_ H; obtain ⟨c10b0, c10b1, H⟩ := H; replace H := ne_ H; obtain ⟨c11b0, c11b1, H⟩ := H; replace H := nl H; obtain ⟨LMc12, H⟩ := H
     obtain ⟨y409, Ny409⟩ := nm (x5_1 ++ [a0.extract (x6_1 : Int).toNat (x7_1 : Int).toNat])
     rw [← Ny409.out] at H
     have H' := ak H; clear H
     obtain ⟨p7, q7, hx7⟩ := bx a0 x7_1
     go_wp2_with (at_builtin; refine aP 20 25 Kd.string 23 9 (.string ⟨#[]⟩) 16 Tryz.underlying23 info9 HB (ur HO_5.out) Ny409 (by have := LMc12.out; omega) ?_; intro v410 w13 ho hb hg hat; have HO411 := ak (ho); replace HB := ak (hb); clear ho hb hg hat HO_5)
     go_roundg k1
     case measure => exact kl
     case rel => exact ⟨_, _, _, rs, rs, H', ⟨kl⟩, ⟨ur HO411.out⟩, ⟨ul HB.out⟩⟩
    ·
     have H' := ak H; clear H
     obtain ⟨p7, q7, hx7⟩ := bx a0 x7_1
     go_wp2
     go_roundg k1
     case measure => exact kl
     case rel => exact ⟨_, _, _, rs, rs, H', ⟨kl⟩, ⟨ur HO_5.out⟩, ⟨ul HB.out⟩⟩
   ·
    replace H := ne_ H; obtain ⟨c14b0, c14b1, H⟩ := H; replace H := ne_ H; obtain ⟨c15b0, c15b1, H⟩ := H; replace H := nl H; obtain ⟨LMc16, H⟩ := H
    obtain ⟨y412, Ny412⟩ := nm (x5_1 ++ [a0.extract (x6_1 : Int).toNat a0.size])
    rw [← Ny412.out] at H
    obtain rfl := s1 H
    go_wp2_with (at_builtin; refine aP 29 33 Kd.string 23 9 (.string ⟨#[]⟩) 16 Tryz.underlying23 info9 HB (ur HO_5.out) Ny412 (by have := LMc16.out; omega) ?_; intro v413 w17 ho hb hg hat; have HO414 := ak (ho); replace HB := ak (hb); clear ho hb hg hat HO_5)
    go_ret
    exact ⟨_, er, ur HO414.out, ul HB.out⟩
end Go.Proofs.YtncdadcmghglkaaGreatDoor.PFnPartSame
