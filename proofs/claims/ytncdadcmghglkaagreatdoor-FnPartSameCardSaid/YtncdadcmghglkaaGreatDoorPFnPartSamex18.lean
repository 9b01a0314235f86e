/- Printed walks; conditions: those in each statement. -/
import Derived.Test.YtncdadcmghglkaaGreatDoorVFnPartSameQt
import Derived.Test.YtncdadcmghglkaaGreatDoorVFnPartSameYt
import Derived.Test.YtncdadcmghglkaaGreatDoorPFnPartSamex0
import Derived.Test.YtncdadcmghglkaaGreatDoorPFnPartSamex16
import Derived.Test.YtncdadcmghglkaaGreatDoorPFnPartSamex17
-- short
-- dense
-- sq
-- sq2
namespace Go.Proofs.YtncdadcmghglkaaGreatDoor.PFnPartSame
open Go.RowKit Go.Proofs.YtncdadcmghglkaaGreatDoor.X Go.Proofs.YtncdadcmghglkaaGreatDoorW.PrintWords Go.Proofs.YtncdadcmghglkaaGreatDoorW.PrintLast Go.Proofs.YtncdadcmghglkaaGreatDoorW.PrintMore
attribute [local go_sem] max2_int min2_int max_two min_two max_three min_three max_four min_four   -- for this text's walks alone
set_option linter.unusedVariables false
set_option maxHeartbeats 8000000
set_option maxRecDepth 100000
set_option linter.unusedSimpArgs false
def spec_l5Lines.l0 : Nat → ByteArray → Int → List ByteArray → Option (List ByteArray)
 | 0, _, _, _ => none
 | k + 1, x0, x1, x5 => if (x0.size : Int) > x1 then (if 0 ≤ x1 then (if x1 ≤ (x0.size : Int) then (if x5.length < 8796093022208 then (spec_l5Lines.l0 k (x0.extract (x1 : Int).toNat x0.size) x1 (x5 ++ [x0.extract 0 (x1 : Int).toNat])) else (none)) else (none)) else (none)) else (if x5.length < 8796093022208 then (some (x5 ++ [x0])) else (none))
def spec_l5Lines.f (k : Nat) (a0 : ByteArray) (a1 : Int) : Option (List ByteArray) := spec_l5Lines.l0 k a0 a1 (([] : List ByteArray))
theorem spec_l5Lines.calls {k : Nat} {a0 : ByteArray} {a1 : Int} {r : List ByteArray} {w : World} (h : spec_l5Lines.f k a0 a1 = some r) :
  Calls Tryz.prog 219 #[.string a0, .int .i64 a1] w fun e w' => ∃ v0_ : Value, e = .returned (v0_) ∧ Kd.R Kd.string 9 w' w.heap.size (fun _ => True) v0_ r ∧ Below w.heap.size w w' := by
 have HB := ak (Below.refl w.heap.size w)
 have H : (spec_l5Lines.l0 k a0 a1 (([] : List ByteArray))) = some r := h
 clear h
 obtain ⟨y465, Ny465⟩ := nm ([] : List ByteArray)
 rw [← Ny465.out] at H
 have H' := ak H; clear H
 go_enter Tryz.func219, Tryz.ntmps219
 go_wp2_with (refine lRN 6 Kd.string 9 Ny465 ?_; intro v466 w3 ho4 hb; have HO467 := ak (Kd.R_lower ho4 (below_size (ul HB.out))); replace HB := bs HB hb; clear hb ho4)
 go_loopg [0, 5] k (fun kq v0 v5 w' => ∃ (x0_1 : ByteArray) (x5_1 : List ByteArray), v0 = .string x0_1 ∧ Aside0 (spec_l5Lines.l0 kq x0_1 a1 x5_1 = some r) ∧ Aside0 (kq ≤ k) ∧ Aside0 (Kd.R Kd.string 9 w' w.heap.size (fun _ => True) v5 x5_1) ∧ Aside0 (Below w.heap.size w w'))
 case atStart => exact ⟨_, _, rs, H', ⟨Nat.le_refl _⟩, ⟨ur HO467.out⟩, ⟨ul HB.out⟩⟩
 case round =>
  clear H'
  obtain ⟨x0_1, x5_1, rfl, HA, HK1, HO_5, HB⟩ := hrel
  cases gk with
  | zero => exact zz HA.out
  | succ k1 =>
   obtain ⟨H⟩ := HA
   simp only [spec_l5Lines.l0] at H
   replace H := sp H
   rcases H with ⟨c5, H⟩ | ⟨c5, H⟩
   ·
    have c5b0 : decide (a1 < (x0_1.size : Int)) = true := decide_eq_true c5
    clear c5
    replace H := ne_ H; obtain ⟨c6b0, c6b1, H⟩ := H; replace H := ne_ H; obtain ⟨c7b0, c7b1, H⟩ := H; replace H := nl H; obtain ⟨LMc8, H⟩ := H
    obtain ⟨y468, Ny468⟩ := nm (x5_1 ++ [x0_1.extract 0 (a1 : Int).toNat])
    rw [← Ny468.out] at H
    have c9b0 := eq_true (of_decide_eq_true (by assumption) : 0 ≤ a1)
    have c10b0 := eq_true (of_decide_eq_true (by assumption) : a1 ≤ (x0_1.size : Int))
    have H' := ak H; clear H
    go_wp2_with (at_builtin; refine aP 11 15 Kd.string 23 9 (.string ⟨#[]⟩) 16 Tryz.underlying23 info9 HB (ur HO_5.out) Ny468 (by have := LMc8.out; omega) ?_; intro v469 w11 ho hb hg hat; have HO470 := ak (ho); replace HB := ak (hb); clear ho hb hg hat HO_5)
    go_roundg k1
    case measure => exact kl
    case rel => exact ⟨_, _, rs, H', ⟨kl⟩, ⟨ur HO470.out⟩, ⟨ul HB.out⟩⟩
   ·
    have c5b0 : decide (a1 < (x0_1.size : Int)) = false := decide_eq_false c5
    clear c5
    replace H := nl H; obtain ⟨LMc12, H⟩ := H
    obtain ⟨y471, Ny471⟩ := nm (x5_1 ++ [x0_1])
    rw [← Ny471.out] at H
    obtain rfl := s1 H
    go_wp2_with (at_builtin; refine aP 20 22 Kd.string 23 9 (.string ⟨#[]⟩) 16 Tryz.underlying23 info9 HB (ur HO_5.out) Ny471 (by have := LMc12.out; omega) ?_; intro v472 w13 ho hb hg hat; have HO473 := ak (ho); replace HB := ak (hb); clear ho hb hg hat HO_5)
    go_ret
    exact ⟨_, er, ur HO473.out, ul HB.out⟩
def spec_l5Letters.f  : Option (ByteArray) := some (⟨#[65, 66, 67, 68, 69, 70, 71, 72, 73, 74, 75, 76, 77, 78, 79, 80, 81, 82, 83, 84, 85, 86, 87, 88, 89, 90, 97, 98, 99, 100, 101, 102, 103, 104, 105, 106, 107, 108, 109, 110, 111, 112, 113, 114, 115, 116, 117, 118, 119, 120, 121, 122, 48, 49, 50, 51, 52, 53, 54, 55, 56, 57, 43, 47]⟩ : ByteArray)
theorem spec_l5Letters.calls  (r : ByteArray) (w : World) (h : spec_l5Letters.f  = some r) :
  Calls Tryz.prog 222 #[] w fun e w' => e = .returned (.string r) ∧ Drawn0 w w' := by
 have H : (some (⟨#[65, 66, 67, 68, 69, 70, 71, 72, 73, 74, 75, 76, 77, 78, 79, 80, 81, 82, 83, 84, 85, 86, 87, 88, 89, 90, 97, 98, 99, 100, 101, 102, 103, 104, 105, 106, 107, 108, 109, 110, 111, 112, 113, 114, 115, 116, 117, 118, 119, 120, 121, 122, 48, 49, 50, 51, 52, 53, 54, 55, 56, 57, 43, 47]⟩ : ByteArray)) = some r := h
 clear h
 obtain rfl := s1 H
 go_enter Tryz.func222, Tryz.ntmps222
 go_wp2
 go_ret
 exact ⟨rs, dn⟩
mutual
def spec_l5Base.l0 : Nat → ByteArray → ByteArray → Int → Option (ByteArray)
 | 0, _, _, _ => none
 | k + 1, x0, x3, x4 => if x4 < (x0.size : Int) then (if 0 ≤ x4 then (if (wrap64 (x4 + 1)) < (x0.size : Int) then (if 0 ≤ (wrap64 (x4 + 1)) then (spec_l5Base.j1 k x0 x3 x4 (wrap64 ((wrap64 ((wrap64 (bt x0 x4)) * 65536)) + (wrap64 ((wrap64 (bt x0 (wrap64 (x4 + 1)))) * 256))))) else (none)) else (spec_l5Base.j1 k x0 x3 x4 (wrap64 ((wrap64 (bt x0 x4)) * 65536)))) else (none)) else (some x3)
def spec_l5Base.j1 : Nat → ByteArray → ByteArray → Int → Int → Option (ByteArray)
 | 0, _, _, _, _ => none
 | k + 1, x0, x3, x4, x5 => if (wrap64 (x4 + 2)) < (x0.size : Int) then (if 0 ≤ (wrap64 (x4 + 2)) then (spec_l5Base.j2 k x0 x3 x4 (wrap64 (x5 + (wrap64 (bt x0 (wrap64 (x4 + 2))))))) else (none)) else (spec_l5Base.j2 k x0 x3 x4 x5)
def spec_l5Base.j2 : Nat → ByteArray → ByteArray → Int → Int → Option (ByteArray)
 | 0, _, _, _, _ => none
 | k + 1, x0, x3, x4, x5 => spec_l5Base.l1 k x0 x3 x4 x5 0
def spec_l5Base.l1 : Nat → ByteArray → ByteArray → Int → Int → Int → Option (ByteArray)
 | 0, _, _, _, _, _ => none
 | k + 1, x0, x3, x4, x5, x6 => if x6 < 4 then (if (wrap64 (x4 + x6)) > (x0.size : Int) then (if x3.size + 1 ≤ 9223372036854775807 then (spec_l5Base.l1 k x0 (x3 ++ (⟨#[61]⟩ : ByteArray)) x4 x5 (wrap64 (x6 + 1))) else (none)) else (if 0 ≤ (wrap64 (18 - (wrap64 (6 * x6)))) then ((spec_l5Letters.f).bind fun t474 => (if 0 ≤ (Go.bits .and .i64 (shr .i64 x5 (wrap64 (18 - (wrap64 (6 * x6))))) 63) then (if (Go.bits .and .i64 (shr .i64 x5 (wrap64 (18 - (wrap64 (6 * x6))))) 63) ≤ (wrap64 ((Go.bits .and .i64 (shr .i64 x5 (wrap64 (18 - (wrap64 (6 * x6))))) 63) + 1)) then (if (wrap64 ((Go.bits .and .i64 (shr .i64 x5 (wrap64 (18 - (wrap64 (6 * x6))))) 63) + 1)) ≤ (t474.size : Int) then (if x3.size + (t474.extract ((Go.bits .and .i64 (shr .i64 x5 (wrap64 (18 - (wrap64 (6 * x6))))) 63) : Int).toNat ((wrap64 ((Go.bits .and .i64 (shr .i64 x5 (wrap64 (18 - (wrap64 (6 * x6))))) 63) + 1)) : Int).toNat).size ≤ 9223372036854775807 then (spec_l5Base.l1 k x0 (x3 ++ (t474.extract ((Go.bits .and .i64 (shr .i64 x5 (wrap64 (18 - (wrap64 (6 * x6))))) 63) : Int).toNat ((wrap64 ((Go.bits .and .i64 (shr .i64 x5 (wrap64 (18 - (wrap64 (6 * x6))))) 63) + 1)) : Int).toNat)) x4 x5 (wrap64 (x6 + 1))) else (none)) else (none)) else (none)) else (none))) else (none))) else (spec_l5Base.l0 k x0 x3 (wrap64 (x4 + 3)))
end
def spec_l5Base.f (k : Nat) (a0 : ByteArray) : Option (ByteArray) := spec_l5Base.l0 k a0 (⟨#[]⟩ : ByteArray) 0
theorem spec_l5Base.calls {k : Nat} {a0 r : ByteArray} {w : World} (h : spec_l5Base.f k a0 = some r) :
  Calls Tryz.prog 220 #[.string a0] w fun e w' => e = .returned (.string r) ∧ Drawn0 w w' := by
 have H : (spec_l5Base.l0 k a0 (⟨#[]⟩ : ByteArray) 0) = some r := h
 clear h
 have H' := ak H; clear H
 go_enter Tryz.func220, Tryz.ntmps220
 go_wp2
 go_loopg [3, 4] k (fun kq v3 v4 w' => ∃ (x3_1 : ByteArray) (x4_1 : Int), v3 = .string x3_1 ∧ v4 = .int .i64 x4_1 ∧ Aside0 (spec_l5Base.l0 kq a0 x3_1 x4_1 = some r) ∧ Aside0 (kq ≤ k) ∧ Drawn0 w w')
 case atStart => exact ⟨_, _, rs, rs, H', ⟨Nat.le_refl _⟩, dn⟩
 case round =>
  clear H'
  obtain ⟨x3_1, x4_1, rfl, rfl, HA, HK1, ⟨m1, rfl⟩⟩ := hrel
  cases gk with
  | zero => exact zz HA.out
  | succ k1 =>
   obtain ⟨H⟩ := HA
   simp only [spec_l5Base.l0] at H
   replace H := sd H
   rcases H with ⟨c2b0, H⟩ | ⟨c2b0, H⟩
   ·
    replace H := nde H; obtain ⟨c3b0, H⟩ := H
    have HC5 := ak H
    clear H
    obtain ⟨p4, q4, hx4⟩ := bx a0 x4_1
    go_upto_if 23 with (fail)
    go_cut [5] (fun v5 wc => ∃ (kq : Nat) (x5_4 : Int), v5 = .int .i64 x5_4 ∧ Aside0 (spec_l5Base.j1 kq a0 x3_1 x4_1 x5_4 = some r) ∧ Aside0 (kq ≤ k1) ∧ Drawn0 w wc)
    case first =>
     have H := HC5.out
     clear HC5
     replace H := sp H
     rcases H with ⟨c6, H⟩ | ⟨c6, H⟩
     ·
      have c6b0 := decide_eq_true c6
      (try (have c6b1 : decide ((x4_1 + 1) < (a0.size : Int)) = true := decide_eq_true (by have h_ := c6; unfold wrap64 at h_; omega)))
      clear c6
      (first | rw [c6b0] | (simp only [i64_w, i32_w]; rw [c6b0]) | skip)
      obtain ⟨ji7, hji7⟩ : ∃ j_ : Int, (wrap64 (x4_1 + 1)) = j_ := ⟨_, rfl⟩
      replace H : (if 0 ≤ (ji7) then (spec_l5Base.j1 k1 a0 x3_1 x4_1 (wrap64 ((wrap64 ((wrap64 (bt a0 x4_1)) * 65536)) + (wrap64 ((wrap64 (bt a0 (ji7))) * 256))))) else (none)) = some r := by first | (rw [hji7] at H; exact H) | (simp only [hji7] at H ⊢; exact H)
      (try rw [hji7] at c6b0)
      have hji7w : (IntKind.i64.wrap (x4_1 + 1)) = ji7 := (i64_w _).trans hji7
      replace H := nde H; obtain ⟨c8b0, H⟩ := H
      have H' := ak H; clear H
      obtain ⟨p9, q9, hx9⟩ := bx a0 (ji7)
      go_wp2
      go_meet
      case rel => exact ⟨_, _, (by first | rfl | (simp; done) | (simp only [← hji7] <;> (first | rfl | simp)) | (simp [*]; done)), H', ⟨kl⟩, dn⟩
     ·
      have c6b0 := decide_eq_false c6
      (try (have c6b1 : decide ((x4_1 + 1) < (a0.size : Int)) = false := decide_eq_false (by have h_ := c6; unfold wrap64 at h_; omega)))
      clear c6
      (first | rw [c6b0] | (simp only [i64_w, i32_w]; rw [c6b0]) | skip)
      have H' := ak H; clear H
      go_wp2
      go_meet
      case rel => exact ⟨_, _, rs, H', ⟨kl⟩, dn⟩
    case rest =>
     clear HC5
     try clear c2b0
     try clear c3b0
     try clear p4
     try clear q4
     try clear hx4
     try clear p4
     try clear q4
     obtain ⟨kq, x5_4, rfl, HA, HJ4, ⟨mc4, rfl⟩⟩ := hcut
     cases kq with
     | zero => exact zz HA.out
     | succ kj4 =>
      obtain ⟨H⟩ := HA
      simp only [spec_l5Base.j1] at H
      have HC10 := ak H
      clear H
      go_upto_if 36 with (fail)
      go_cut [5] (fun v5 wc => ∃ (kq : Nat) (x5_9 : Int), v5 = .int .i64 x5_9 ∧ Aside0 (spec_l5Base.j2 kq a0 x3_1 x4_1 x5_9 = some r) ∧ Aside0 (kq ≤ kj4) ∧ Drawn0 w wc)
      case first =>
       have H := HC10.out
       clear HC10
       replace H := sp H
       rcases H with ⟨c11, H⟩ | ⟨c11, H⟩
       ·
        have c11b0 := decide_eq_true c11
        (try (have c11b1 : decide ((x4_1 + 2) < (a0.size : Int)) = true := decide_eq_true (by have h_ := c11; unfold wrap64 at h_; omega)))
        clear c11
        (first | rw [c11b0] | (simp only [i64_w, i32_w]; rw [c11b0]) | skip)
        obtain ⟨ji12, hji12⟩ : ∃ j_ : Int, (wrap64 (x4_1 + 2)) = j_ := ⟨_, rfl⟩
        replace H : (if 0 ≤ (ji12) then (spec_l5Base.j2 kj4 a0 x3_1 x4_1 (wrap64 (x5_4 + (wrap64 (bt a0 (ji12)))))) else (none)) = some r := by first | (rw [hji12] at H; exact H) | (simp only [hji12] at H ⊢; exact H)
        (try rw [hji12] at c11b0)
        have hji12w : (IntKind.i64.wrap (x4_1 + 2)) = ji12 := (i64_w _).trans hji12
        replace H := nde H; obtain ⟨c13b0, H⟩ := H
        have H' := ak H; clear H
        obtain ⟨p14, q14, hx14⟩ := bx a0 (ji12)
        go_wp2
        go_meet
        case rel => exact ⟨_, _, (by first | rfl | (simp; done) | (simp only [← hji12] <;> (first | rfl | simp)) | (simp [*]; done)), H', ⟨kl⟩, dn⟩
       ·
        have c11b0 := decide_eq_false c11
        (try (have c11b1 : decide ((x4_1 + 2) < (a0.size : Int)) = false := decide_eq_false (by have h_ := c11; unfold wrap64 at h_; omega)))
        clear c11
        (first | rw [c11b0] | (simp only [i64_w, i32_w]; rw [c11b0]) | skip)
        have H' := ak H; clear H
        go_wp2
        go_meet
        case rel => exact ⟨_, _, rs, H', ⟨kl⟩, dn⟩
      case rest =>
       clear HC10
       try clear c2b0
       try clear c3b0
       try clear p4
       try clear q4
       try clear hx4
       try clear p4
       try clear q4
       obtain ⟨kq, x5_9, rfl, HA, HJ9, ⟨mc9, rfl⟩⟩ := hcut
       cases kq with
       | zero => exact zz HA.out
       | succ kj9 =>
        obtain ⟨H⟩ := HA
        simp only [spec_l5Base.j2] at H
        have H' := ak H; clear H
        go_wp2
        go_loopg [3, 6] kj9 (fun kq v3 v6 w' => ∃ (x3_4 : ByteArray) (x6_4 : Int), v3 = .string x3_4 ∧ v6 = .int .i64 x6_4 ∧ Aside0 (spec_l5Base.l1 kq a0 x3_4 x4_1 x5_9 x6_4 = some r) ∧ Aside0 (kq ≤ kj9) ∧ Drawn0 w w')
        case atStart => exact ⟨_, _, rs, rs, H', ⟨Nat.le_refl _⟩, dn⟩
        case round =>
         clear H'
         try clear c2b0
         try clear c3b0
         try clear p4
         try clear q4
         try clear hx4
         try clear p4
         try clear q4
         obtain ⟨x3_4, x6_4, rfl, rfl, HA, HK4, ⟨m4, rfl⟩⟩ := hrel
         cases gk with
         | zero => exact zz HA.out
         | succ k4 =>
          obtain ⟨H⟩ := HA
          simp only [spec_l5Base.l1] at H
          replace H := sd H
          rcases H with ⟨c15b0, H⟩ | ⟨c15b0, H⟩
          ·
           replace H := sp H
           rcases H with ⟨c16, H⟩ | ⟨c16, H⟩
           ·
            have c16b0 : decide ((a0.size : Int) < (wrap64 (x4_1 + x6_4))) = true := decide_eq_true c16
            replace H := nn H; obtain ⟨c17, H⟩ := H
            (try (have c16b1 : decide ((a0.size : Int) < (x4_1 + x6_4)) = true := decide_eq_true (by have h_ := c16; have h2_ := c17; unfold wrap64 at h_; omega)))
            clear c16
            have c17b0 := eq_true c17
            have c17b1 := decide_eq_true c17
            try have c17b2 : (9223372036854775807 < x3_4.size + 1) = False := eq_false (Nat.not_lt.2 c17)
            have H' := ak H; clear H
            go_wp2
            go_roundg k4
            case measure => exact kl
            case rel => exact ⟨_, _, rs, rs, H', ⟨kl⟩, dn⟩
           ·
            have c16b0 : decide ((a0.size : Int) < (wrap64 (x4_1 + x6_4))) = false := decide_eq_false c16
            (try (have c16b1 : decide ((a0.size : Int) < (x4_1 + x6_4)) = false := decide_eq_false (by have h_ := c16; unfold wrap64 at h_; omega)))
            clear c16
            obtain ⟨ji18, hji18⟩ : ∃ j_ : Int, (wrap64 (18 - (wrap64 (6 * x6_4)))) = j_ := ⟨_, rfl⟩
            replace H : (if 0 ≤ (ji18) then ((spec_l5Letters.f).bind fun t474 => (if 0 ≤ (Go.bits .and .i64 (shr .i64 x5_9 (ji18)) 63) then (if (Go.bits .and .i64 (shr .i64 x5_9 (ji18)) 63) ≤ (wrap64 ((Go.bits .and .i64 (shr .i64 x5_9 (ji18)) 63) + 1)) then (if (wrap64 ((Go.bits .and .i64 (shr .i64 x5_9 (ji18)) 63) + 1)) ≤ (t474.size : Int) then (if x3_4.size + (t474.extract ((Go.bits .and .i64 (shr .i64 x5_9 (ji18)) 63) : Int).toNat ((wrap64 ((Go.bits .and .i64 (shr .i64 x5_9 (ji18)) 63) + 1)) : Int).toNat).size ≤ 9223372036854775807 then (spec_l5Base.l1 k4 a0 (x3_4 ++ (t474.extract ((Go.bits .and .i64 (shr .i64 x5_9 (ji18)) 63) : Int).toNat ((wrap64 ((Go.bits .and .i64 (shr .i64 x5_9 (ji18)) 63) + 1)) : Int).toNat)) x4_1 x5_9 (wrap64 (x6_4 + 1))) else (none)) else (none)) else (none)) else (none))) else (none)) = some r := by first | (rw [hji18] at H; exact H) | (simp only [hji18] at H ⊢; exact H)
            have hji18w : (IntKind.i64.wrap (18 - (wrap64 (6 * x6_4)))) = ji18 := (i64_w _).trans hji18
            replace H := ne_ H; obtain ⟨c19b0, c19b1, H⟩ := H
            obtain ⟨ji20, hji20⟩ : ∃ j_ : Int, (shr .i64 x5_9 (ji18)) = j_ := ⟨_, rfl⟩
            replace H : ((spec_l5Letters.f).bind fun t474 => (if 0 ≤ (Go.bits .and .i64 (ji20) 63) then (if (Go.bits .and .i64 (ji20) 63) ≤ (wrap64 ((Go.bits .and .i64 (ji20) 63) + 1)) then (if (wrap64 ((Go.bits .and .i64 (ji20) 63) + 1)) ≤ (t474.size : Int) then (if x3_4.size + (t474.extract ((Go.bits .and .i64 (ji20) 63) : Int).toNat ((wrap64 ((Go.bits .and .i64 (ji20) 63) + 1)) : Int).toNat).size ≤ 9223372036854775807 then (spec_l5Base.l1 k4 a0 (x3_4 ++ (t474.extract ((Go.bits .and .i64 (ji20) 63) : Int).toNat ((wrap64 ((Go.bits .and .i64 (ji20) 63) + 1)) : Int).toNat)) x4_1 x5_9 (wrap64 (x6_4 + 1))) else (none)) else (none)) else (none)) else (none))) = some r := by first | (rw [hji20] at H; exact H) | (simp only [hji20] at H ⊢; exact H)
            have hji20_ : (x5_9 / 2 ^ min (ji18).toNat 64) = ji20 := hji20
            have hji20z : (ji18) ≤ 64 → (x5_9 / 2 ^ (ji18).toNat) = ji20 := shr_small hji20
            replace H := bd H; obtain ⟨t474, A21, H⟩ := H; replace H := ne_ H; obtain ⟨c22b0, c22b1, H⟩ := H; replace H := nn H; obtain ⟨c23, H⟩ := H
            have c23b0 := eq_true c23
            have c23b1 := decide_eq_true c23
            replace H := nn H; obtain ⟨c24, H⟩ := H
            have c24b0 := eq_true c24
            have c24b1 := decide_eq_true c24
            replace H := nn H; obtain ⟨c25, H⟩ := H
            have c25b0 := eq_true c25
            have c25b1 := decide_eq_true c25
            try have c25b4 : (9223372036854775807 < x3_4.size + ((t474.extract ((Go.bits .and .i64 (ji20) 63) : Int).toNat ((wrap64 ((Go.bits .and .i64 (ji20) 63) + 1)) : Int).toNat).size)) = False := by have h_ := c25; simp only [ByteArray.size_append, ByteArray.size_extract] at h_; refine eq_false ?_; simp only [decide_eq_true_eq] at *; omega
            try have c25b2 : (9223372036854775807 < x3_4.size + (t474.extract ((Go.bits .and .i64 (ji20) 63) : Int).toNat ((wrap64 ((Go.bits .and .i64 (ji20) 63) + 1)) : Int).toNat).size) = False := eq_false (Nat.not_lt.2 c25)
            have H' := ak H; clear H
            go_wp2_with (refine gA Tryz.func222 (spec_l5Letters.calls  t474 _ A21.out) ?_; intro nd)
            go_roundg k4
            case measure => exact kl
            case rel => exact ⟨_, _, (by first | rfl | (simp; done) | (simp only [← hji20] <;> (first | rfl | simp)) | (simp [*]; done)), rs, H', ⟨kl⟩, dn⟩
          ·
           have H' := ak H; clear H
           go_wp2
           go_roundg k4
           case measure => exact kl
           case rel => exact ⟨_, _, rs, rs, H', ⟨kl⟩, dn⟩
   ·
    obtain rfl := s1 H
    go_wp2
    go_ret
    exact ⟨rs, dn⟩
def spec_EncodeBase.f (k : Nat) (a0 : ByteArray) : Option (List ByteArray × Bool) := if (a0.size : Int) > 300 then (some ((([] : List ByteArray)), false)) else ((spec_l5Base.f k a0).bind fun t478 => ((spec_l5Lines.f k t478 40).bind fun t479 => (some (t479, true))))
theorem spec_EncodeBase.calls {k : Nat} {a0 : ByteArray} {r1 : List ByteArray} {r2 : Bool} {w : World} (h : spec_EncodeBase.f k a0 = some (r1, r2)) :
  Calls Tryz.prog 212 #[.string a0] w fun e w' => ∃ v0_ : Value, e = .returned (.tuple #[v0_, .bool r2]) ∧ Kd.R Kd.string 9 w' w.heap.size (fun _ => True) v0_ r1 ∧ Below w.heap.size w w' := by
 have HB := ak (Below.refl w.heap.size w)
 have H : (if (a0.size : Int) > 300 then (some ((([] : List ByteArray)), false)) else ((spec_l5Base.f k a0).bind fun t478 => ((spec_l5Lines.f k t478 40).bind fun t479 => (some (t479, true))))) = some (r1, r2) := h
 clear h
 replace H := sp H
 rcases H with ⟨c2, H⟩ | ⟨c2, H⟩
 ·
  have c2b0 : decide (300 < (a0.size : Int)) = true := decide_eq_true c2
  have c2b1 : decide (300 < a0.size) = true := decide_eq_true (by omega)
  clear c2
  obtain ⟨y475, Ny475⟩ := nm ([] : List ByteArray)
  rw [← Ny475.out] at H
  obtain ⟨rfl, rfl⟩ := s2 H
  go_enter Tryz.func212, Tryz.ntmps212
  go_wp2_with (refine lRN 7 Kd.string 9 Ny475 ?_; intro v476 w3 ho4 hb; have HO477 := ak (Kd.R_lower ho4 (below_size (ul HB.out))); replace HB := bs HB hb; clear hb ho4)
  go_ret2
  exact ⟨_, er, ur HO477.out, ul HB.out⟩
 ·
  have c2b0 : decide (300 < (a0.size : Int)) = false := decide_eq_false c2
  have c2b1 : decide (300 < a0.size) = false := decide_eq_false (by omega)
  clear c2
  replace H := bd H; obtain ⟨t478, A5, H⟩ := H; replace H := bd H; obtain ⟨t479, A6, H⟩ := H
  obtain ⟨rfl, rfl⟩ := s2 H
  go_enter Tryz.func212, Tryz.ntmps212
  go_wp2_with (first | (refine gA Tryz.func220 (spec_l5Base.calls A5.out) ?_; intro nd) | (refine gV Tryz.func219 (spec_l5Lines.calls A6.out) ?_; rintro v480 w7 ⟨ho0, hb⟩; have HO481 := ak (Kd.R_lower ho0 (below_size (ul HB.out))); replace HB := bs HB hb; clear hb; (try clear ho0)))
  go_ret2
  exact ⟨_, er, ur HO481.out, ul HB.out⟩
def spec_l5Size.l0 : Nat → List ByteArray → Int → Int → Option (Int)
 | 0, _, _, _ => none
 | k + 1, x0, x3, x4 => if x4 < (x0.length : Int) then (if 0 ≤ x4 then (spec_l5Size.l0 k x0 (wrap64 ((wrap64 (x3 + ((rdOf ByteArray.empty x0 x4).size : Int))) + 1)) (wrap64 (x4 + 1))) else (none)) else (some x3)
def spec_l5Size.f (k : Nat) (l0 : List ByteArray) : Option (Int) := spec_l5Size.l0 k l0 0 0
theorem spec_l5Size.calls {k c0 : Nat} {A0 : Option Addr} {l0 : List ByteArray} {r : Int} {w : World} (hr0 : Kd.C Kd.string w A0 l0.length l0) (hc0 : l0.length ≤ c0) (h : spec_l5Size.f k l0 = some r) :
  Calls Tryz.prog 213 #[.slice A0 l0.length c0] w fun e w' => e = .returned (.int .i64 r) ∧ Drawn0 w w' := by
 have HR0 := ak hr0
 have HC0 := ak hc0
 clear hr0 hc0
 have H : (spec_l5Size.l0 k l0 0 0) = some r := h
 clear h
 have H' := ak H; clear H
 go_enter Tryz.func213, Tryz.ntmps213
 go_wp2
 go_loopg [3, 4] k (fun kq v3 v4 w' => ∃ (x3_1 : Int) (x4_1 : Int), v3 = .int .i64 x3_1 ∧ v4 = .int .i64 x4_1 ∧ Aside0 (spec_l5Size.l0 kq l0 x3_1 x4_1 = some r) ∧ Aside0 (kq ≤ k) ∧ Drawn0 w w')
 case atStart => exact ⟨_, _, rs, rs, H', ⟨Nat.le_refl _⟩, dn⟩
 case round =>
  clear H'
  obtain ⟨x3_1, x4_1, rfl, rfl, HA, HK1, ⟨m1, rfl⟩⟩ := hrel
  cases gk with
  | zero => exact zz HA.out
  | succ k1 =>
   obtain ⟨H⟩ := HA
   simp only [spec_l5Size.l0] at H
   replace H := sd H
   rcases H with ⟨c2b0, H⟩ | ⟨c2b0, H⟩
   ·
    replace H := nde H; obtain ⟨c3b0, H⟩ := H
    have H' := ak H; clear H
    have p482 := zi x4_1
    have q482 := zj x4_1 l0.length
    obtain ⟨ad482, e482, hx482_0⟩ := Kd.at_string HR0.out x4_1 p482 q482
    cases e482
    replace p482 := eq_true p482
    replace q482 := eq_true q482
    go_wp2
    go_roundg k1
    case measure => exact kl
    case rel => exact ⟨_, _, rs, rs, H', ⟨kl⟩, dn⟩
   ·
    obtain rfl := s1 H
    go_wp2
    go_ret
    exact ⟨rs, dn⟩
def spec_BestCode.f (k : Nat) (a0 : ByteArray) : Option (Int × Bool) := if (a0.size : Int) > 300 then (some (0, false)) else ((spec_l5Plain.f k a0).bind fun bt483 => (if bt483.2 = true then (some (0, true)) else ((spec_EncodeQuoted.f k a0).bind fun bt487 => ((spec_EncodeBase.f k a0).bind fun bt491 => ((spec_l5Size.f k bt487.1).bind fun t495 => ((spec_l5Size.f k bt491.1).bind fun t496 => (if t495 ≤ t496 then (some (1, true)) else (some (2, true)))))))))
theorem spec_BestCode.calls {k : Nat} {a0 : ByteArray} {r1 : Int} {r2 : Bool} {w : World} (h : spec_BestCode.f k a0 = some (r1, r2)) :
  Calls Tryz.prog 195 #[.string a0] w fun e w' => e = .returned (.tuple #[.int .i64 r1, .bool r2]) ∧ Below w.heap.size w w' := by
 have HB := ak (Below.refl w.heap.size w)
 have H : (if (a0.size : Int) > 300 then (some (0, false)) else ((spec_l5Plain.f k a0).bind fun bt483 => (if bt483.2 = true then (some (0, true)) else ((spec_EncodeQuoted.f k a0).bind fun bt487 => ((spec_EncodeBase.f k a0).bind fun bt491 => ((spec_l5Size.f k bt487.1).bind fun t495 => ((spec_l5Size.f k bt491.1).bind fun t496 => (if t495 ≤ t496 then (some (1, true)) else (some (2, true)))))))))) = some (r1, r2) := h
 clear h
 replace H := sp H
 rcases H with ⟨c2, H⟩ | ⟨c2, H⟩
 ·
  have c2b0 : decide (300 < (a0.size : Int)) = true := decide_eq_true c2
  have c2b1 : decide (300 < a0.size) = true := decide_eq_true (by omega)
  clear c2
  obtain ⟨rfl, rfl⟩ := s2 H
  go_enter Tryz.func195, Tryz.ntmps195
  go_wp2
  go_ret2
  exact ⟨er, ul HB.out⟩
 ·
  have c2b0 : decide (300 < (a0.size : Int)) = false := decide_eq_false c2
  have c2b1 : decide (300 < a0.size) = false := decide_eq_false (by omega)
  clear c2
  replace H := bd H
  obtain ⟨⟨t483, t484⟩, A3, H⟩ := H
  (try dsimp only at H)
  replace H := sb H
  rcases H with ⟨rfl, H⟩ | ⟨rfl, H⟩
  ·
   obtain ⟨rfl, rfl⟩ := s2 H
   go_enter Tryz.func195, Tryz.ntmps195
   go_wp2_with (refine gV Tryz.func210 (spec_l5Plain.calls A3.out) ?_; rintro v485 w5 ⟨ho0, hb⟩; have HO486 := ak (Kd.R_lower ho0 (below_size (ul HB.out))); replace HB := bs HB hb; clear hb; (try clear ho0))
   go_ret2
   exact ⟨er, ul HB.out⟩
  ·
   replace H := bd H
   obtain ⟨⟨t487, t488⟩, A6, H⟩ := H
   (try dsimp only at H)
   replace H := bd H
   obtain ⟨⟨t491, t492⟩, A7, H⟩ := H
   (try dsimp only at H)
   replace H := bd H; obtain ⟨t495, A8, H⟩ := H; replace H := bd H; obtain ⟨t496, A9, H⟩ := H; replace H := sd H
   rcases H with ⟨c10b0, H⟩ | ⟨c10b0, H⟩
   ·
    obtain ⟨rfl, rfl⟩ := s2 H
    go_enter Tryz.func195, Tryz.ntmps195
    go_wp2_with (first | (refine gV Tryz.func210 (spec_l5Plain.calls A3.out) ?_; rintro v485 w11 ⟨ho0, hb⟩; have HO486 := ak (Kd.R_lower ho0 (below_size (ul HB.out))); replace HB := bs HB hb; clear hb; (try clear ho0)) | (refine gV Tryz.func211 (spec_EncodeQuoted.calls A6.out) ?_; rintro v489 w12 ⟨ho0, hb⟩; have HO490 := ak (Kd.R_lower (Kd.R_new' ho0 (Kd.R_lt (ur HO486.out))) (below_size (ul HB.out))); replace HO486 := ak (Kd.R_elder' (ur HO486.out) (Kd.R_base ho0) hb); replace HB := bs HB hb; clear hb; (try clear ho0)) | (refine gV Tryz.func212 (spec_EncodeBase.calls A7.out) ?_; rintro v493 w13 ⟨ho0, hb⟩; have HO494 := ak (Kd.R_lower (Kd.R_new' (Kd.R_new' ho0 (Kd.R_lt (ur HO486.out))) (Kd.R_lt (ur HO490.out))) (below_size (ul HB.out))); replace HO486 := ak (Kd.R_elder' (ur HO486.out) (Kd.R_base ho0) hb); replace HO490 := ak (Kd.R_elder' (ur HO490.out) (Kd.R_base ho0) hb); replace HB := bs HB hb; clear hb; (try clear ho0); obtain ⟨Ao14, co14, eo14⟩ := Kd.R_slice HO490.out; subst eo14) | (refine gA Tryz.func213 (spec_l5Size.calls (cu ((Kd.R_reads' HO490.out).2.2)) ((Kd.R_reads' HO490.out).2.1) A8.out) ?_; intro nd; obtain ⟨Ao15, co15, eo15⟩ := Kd.R_slice HO494.out; subst eo15) | (refine gA Tryz.func213 (spec_l5Size.calls (cu ((Kd.R_reads' HO494.out).2.2)) ((Kd.R_reads' HO494.out).2.1) A9.out) ?_; intro nd))
    go_ret2
    exact ⟨er, ul HB.out⟩
   ·
    obtain ⟨rfl, rfl⟩ := s2 H
    go_enter Tryz.func195, Tryz.ntmps195
    go_wp2_with (first | (refine gV Tryz.func210 (spec_l5Plain.calls A3.out) ?_; rintro v485 w16 ⟨ho0, hb⟩; have HO486 := ak (Kd.R_lower ho0 (below_size (ul HB.out))); replace HB := bs HB hb; clear hb; (try clear ho0)) | (refine gV Tryz.func211 (spec_EncodeQuoted.calls A6.out) ?_; rintro v489 w17 ⟨ho0, hb⟩; have HO490 := ak (Kd.R_lower (Kd.R_new' ho0 (Kd.R_lt (ur HO486.out))) (below_size (ul HB.out))); replace HO486 := ak (Kd.R_elder' (ur HO486.out) (Kd.R_base ho0) hb); replace HB := bs HB hb; clear hb; (try clear ho0)) | (refine gV Tryz.func212 (spec_EncodeBase.calls A7.out) ?_; rintro v493 w18 ⟨ho0, hb⟩; have HO494 := ak (Kd.R_lower (Kd.R_new' (Kd.R_new' ho0 (Kd.R_lt (ur HO486.out))) (Kd.R_lt (ur HO490.out))) (below_size (ul HB.out))); replace HO486 := ak (Kd.R_elder' (ur HO486.out) (Kd.R_base ho0) hb); replace HO490 := ak (Kd.R_elder' (ur HO490.out) (Kd.R_base ho0) hb); replace HB := bs HB hb; clear hb; (try clear ho0); obtain ⟨Ao19, co19, eo19⟩ := Kd.R_slice HO490.out; subst eo19) | (refine gA Tryz.func213 (spec_l5Size.calls (cu ((Kd.R_reads' HO490.out).2.2)) ((Kd.R_reads' HO490.out).2.1) A8.out) ?_; intro nd; obtain ⟨Ao20, co20, eo20⟩ := Kd.R_slice HO494.out; subst eo20) | (refine gA Tryz.func213 (spec_l5Size.calls (cu ((Kd.R_reads' HO494.out).2.2)) ((Kd.R_reads' HO494.out).2.1) A9.out) ?_; intro nd))
    go_ret2
    exact ⟨er, ul HB.out⟩
def spec_EncodeBytes.f (k : Nat) (a0 : ByteArray) (a1 : Int) : Option (List ByteArray × Bool) := if a1 = 0 then ((spec_l5Plain.f k a0).bind fun bt497 => (if bt497.2 = true then (some (bt497.1, true)) else (some ((([] : List ByteArray)), false)))) else (if a1 = 1 then ((spec_EncodeQuoted.f k a0).bind fun bt504 => (some (bt504.1, bt504.2))) else (if a1 = 2 then ((spec_EncodeBase.f k a0).bind fun bt508 => (some (bt508.1, bt508.2))) else (some ((([] : List ByteArray)), false))))
theorem spec_EncodeBytes.calls {k : Nat} {a0 : ByteArray} {a1 : Int} {r1 : List ByteArray} {r2 : Bool} {w : World} (h : spec_EncodeBytes.f k a0 a1 = some (r1, r2)) :
  Calls Tryz.prog 196 #[.string a0, .int .i64 a1] w fun e w' => ∃ v0_ : Value, e = .returned (.tuple #[v0_, .bool r2]) ∧ Kd.R Kd.string 9 w' w.heap.size (fun _ => True) v0_ r1 ∧ Below w.heap.size w w' := by
 have HB := ak (Below.refl w.heap.size w)
 have H : (if a1 = 0 then ((spec_l5Plain.f k a0).bind fun bt497 => (if bt497.2 = true then (some (bt497.1, true)) else (some ((([] : List ByteArray)), false)))) else (if a1 = 1 then ((spec_EncodeQuoted.f k a0).bind fun bt504 => (some (bt504.1, bt504.2))) else (if a1 = 2 then ((spec_EncodeBase.f k a0).bind fun bt508 => (some (bt508.1, bt508.2))) else (some ((([] : List ByteArray)), false))))) = some (r1, r2) := h
 clear h
 replace H := sq H
 rcases H with ⟨c3b0, c3b1, H⟩ | ⟨c3, c3b0, c3b1, H⟩
 ·
  replace H := bd H
  obtain ⟨⟨t497, t498⟩, A4, H⟩ := H
  (try dsimp only at H)
  replace H := sb H
  rcases H with ⟨rfl, H⟩ | ⟨rfl, H⟩
  ·
   obtain ⟨rfl, rfl⟩ := s2 H
   go_enter Tryz.func196, Tryz.ntmps196
   go_wp2_with (refine gV Tryz.func210 (spec_l5Plain.calls A4.out) ?_; rintro v499 w6 ⟨ho0, hb⟩; have HO500 := ak (Kd.R_lower ho0 (below_size (ul HB.out))); replace HB := bs HB hb; clear hb; (try clear ho0))
   go_ret2
   exact ⟨_, er, ur HO500.out, ul HB.out⟩
  ·
   obtain ⟨y501, Ny501⟩ := nm ([] : List ByteArray)
   rw [← Ny501.out] at H
   obtain ⟨rfl, rfl⟩ := s2 H
   go_enter Tryz.func196, Tryz.ntmps196
   go_wp2_with (first | (refine gV Tryz.func210 (spec_l5Plain.calls A4.out) ?_; rintro v499 w7 ⟨ho0, hb⟩; have HO500 := ak (Kd.R_lower ho0 (below_size (ul HB.out))); replace HB := bs HB hb; clear hb; (try clear ho0)) | (refine lRN 30 Kd.string 9 Ny501 ?_; intro v502 w8 ho9 hb; have HO503 := ak (Kd.R_lower (Kd.R_new' ho9 (Kd.R_lt (ur HO500.out))) (below_size (ul HB.out))); replace HO500 := ak (Kd.R_elder' (ur HO500.out) (Kd.R_base ho9) hb); replace HB := bs HB hb; clear hb ho9))
   go_ret2
   exact ⟨_, er, ur (Kd.R_mono HO503.out (fun _ hk => trivial)), ul HB.out⟩
 ·
  replace H := sq H
  rcases H with ⟨c10b0, c10b1, H⟩ | ⟨c10, c10b0, c10b1, H⟩
  ·
   replace H := bd H
   obtain ⟨⟨t504, t505⟩, A11, H⟩ := H
   (try dsimp only at H)
   obtain ⟨rfl, rfl⟩ := s2 H
   go_enter Tryz.func196, Tryz.ntmps196
   go_wp2_with (refine gV Tryz.func211 (spec_EncodeQuoted.calls A11.out) ?_; rintro v506 w12 ⟨ho0, hb⟩; have HO507 := ak (Kd.R_lower ho0 (below_size (ul HB.out))); replace HB := bs HB hb; clear hb; (try clear ho0))
   go_ret2
   exact ⟨_, er, ur HO507.out, ul HB.out⟩
  ·
   replace H := sq H
   rcases H with ⟨c13b0, c13b1, H⟩ | ⟨c13, c13b0, c13b1, H⟩
   ·
    replace H := bd H
    obtain ⟨⟨t508, t509⟩, A14, H⟩ := H
    (try dsimp only at H)
    obtain ⟨rfl, rfl⟩ := s2 H
    go_enter Tryz.func196, Tryz.ntmps196
    go_wp2_with (refine gV Tryz.func212 (spec_EncodeBase.calls A14.out) ?_; rintro v510 w15 ⟨ho0, hb⟩; have HO511 := ak (Kd.R_lower ho0 (below_size (ul HB.out))); replace HB := bs HB hb; clear hb; (try clear ho0))
    go_ret2
    exact ⟨_, er, ur HO511.out, ul HB.out⟩
   ·
    obtain ⟨y512, Ny512⟩ := nm ([] : List ByteArray)
    rw [← Ny512.out] at H
    obtain ⟨rfl, rfl⟩ := s2 H
    go_enter Tryz.func196, Tryz.ntmps196
    go_wp2_with (refine lRN 30 Kd.string 9 Ny512 ?_; intro v513 w16 ho17 hb; have HO514 := ak (Kd.R_lower ho17 (below_size (ul HB.out))); replace HB := bs HB hb; clear hb ho17)
    go_ret2
    exact ⟨_, er, ur HO514.out, ul HB.out⟩
end Go.Proofs.YtncdadcmghglkaaGreatDoor.PFnPartSame
