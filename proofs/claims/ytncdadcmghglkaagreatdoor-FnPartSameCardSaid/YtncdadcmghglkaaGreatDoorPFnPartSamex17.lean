/- Printed walks; conditions: those in each statement. -/
import Derived.Test.YtncdadcmghglkaaGreatDoorVFnPartSameQt
import Derived.Test.YtncdadcmghglkaaGreatDoorVFnPartSameYt
import Derived.Test.YtncdadcmghglkaaGreatDoorPFnPartSamex0
import Derived.Test.YtncdadcmghglkaaGreatDoorPFnPartSamex16
-- short
-- dense
-- sq
-- sq2
namespace Go.Proofs.YtncdadcmghglkaaGreatDoor.PFnPartSame
open Go.RowKit Go.Proofs.YtncdadcmghglkaaGreatDoor.X Go.Proofs.YtncdadcmghglkaaGreatDoorW.PrintWords Go.Proofs.YtncdadcmghglkaaGreatDoorW.PrintLast Go.Proofs.YtncdadcmghglkaaGreatDoorW.PrintMore
attribute [local go_sem] max2_int min2_int max_two min_two max_three min_three max_four min_four   -- for this text's walks alone
set_option linter.unusedVariables false
set_option maxHeartbeats 8000000
set_option maxRecDepth 100000
set_option linter.unusedSimpArgs false
def spec_EncodeQuoted.l0 : Nat → ByteArray → List ByteArray → ByteArray → Int → Option (List ByteArray × Bool)
 | 0, _, _, _, _ => none
 | k + 1, x0, x4, x5, x6 => if x6 < (x0.size : Int) then (if 0 ≤ x6 then (if (bt x0 x6) = 10 then (if x4.length < 8796093022208 then (spec_EncodeQuoted.l0 k x0 (x4 ++ [x5]) (⟨#[]⟩ : ByteArray) (wrap64 (x6 + 1))) else (none)) else (if (wrap64 (x6 + 1)) = (x0.size : Int) then ((spec_l5Byte.f (bt x0 x6) true).bind fun t457 => (if (wrap64 ((x5.size : Int) + (t457.size : Int))) > 39 then (if x5.size + 1 ≤ 9223372036854775807 then (if x4.length < 8796093022208 then (if 0 + t457.size ≤ 9223372036854775807 then (spec_EncodeQuoted.l0 k x0 (x4 ++ [x5 ++ (⟨#[61]⟩ : ByteArray)]) ((⟨#[]⟩ : ByteArray) ++ t457) (wrap64 (x6 + 1))) else (none)) else (none)) else (none)) else (if x5.size + t457.size ≤ 9223372036854775807 then (spec_EncodeQuoted.l0 k x0 x4 (x5 ++ t457) (wrap64 (x6 + 1))) else (none)))) else (if 0 ≤ (wrap64 (x6 + 1)) then (if (wrap64 (x6 + 1)) < (x0.size : Int) then ((spec_l5Byte.f (bt x0 x6) ((bt x0 (wrap64 (x6 + 1))) == 10)).bind fun t461 => (if (wrap64 ((x5.size : Int) + (t461.size : Int))) > 39 then (if x5.size + 1 ≤ 9223372036854775807 then (if x4.length < 8796093022208 then (if 0 + t461.size ≤ 9223372036854775807 then (spec_EncodeQuoted.l0 k x0 (x4 ++ [x5 ++ (⟨#[61]⟩ : ByteArray)]) ((⟨#[]⟩ : ByteArray) ++ t461) (wrap64 (x6 + 1))) else (none)) else (none)) else (none)) else (if x5.size + t461.size ≤ 9223372036854775807 then (spec_EncodeQuoted.l0 k x0 x4 (x5 ++ t461) (wrap64 (x6 + 1))) else (none)))) else (none)) else (none)))) else (none)) else (if x4.length < 8796093022208 then (some ((x4 ++ [x5]), true)) else (none))
def spec_EncodeQuoted.f (k : Nat) (a0 : ByteArray) : Option (List ByteArray × Bool) := if (a0.size : Int) > 300 then (some ((([] : List ByteArray)), false)) else (spec_EncodeQuoted.l0 k a0 (([] : List ByteArray)) (⟨#[]⟩ : ByteArray) 0)
def spec_EncodeQuoted.T11 : Bool × List (List Nat × List Nat) := (true, [([], []), ([], []), ([0, 1], [0, 1]), ([], []), ([3], [3]), ([], []), ([5], [5]), ([4, 6], [4, 6]), ([7], [7]), ([8], [8]), ([8], [8]), ([10, 8], [8, 10]), ([9, 11, 8], [8, 9, 11]), ([12, 8], [8, 12]), ([8, 13], [8, 13]), ([2, 14, 8], [2, 14]), ([15, 15, 0, 1, 2, 3, 4, 5, 6, 7, 8, 9, 10, 11, 12, 13, 14, 15], [15])])
def spec_EncodeQuoted.B11 : List Nat := [0, 0, 3, 0, 8, 0, 32, 120, 248, 504, 504, 1528, 4088, 8184, 16376, 32767, 65535]
theorem spec_EncodeQuoted.tab11 : rtab .any (opsOf Tryz.f211 11) = spec_EncodeQuoted.T11 := by kernel_rfl
theorem spec_EncodeQuoted.bits11 : waitsOk spec_EncodeQuoted.T11.2 spec_EncodeQuoted.B11 = true := by kernel_rfl
theorem spec_EncodeQuoted.calls {k : Nat} {a0 : ByteArray} {r1 : List ByteArray} {r2 : Bool} {w : World} (h : spec_EncodeQuoted.f k a0 = some (r1, r2)) :
  Calls Tryz.prog 211 #[.string a0] w fun e w' => ∃ v0_ : Value, e = .returned (.tuple #[v0_, .bool r2]) ∧ Kd.R Kd.string 9 w' w.heap.size (fun _ => True) v0_ r1 ∧ Below w.heap.size w w' := by
 have HB := ak (Below.refl w.heap.size w)
 have H : (if (a0.size : Int) > 300 then (some ((([] : List ByteArray)), false)) else (spec_EncodeQuoted.l0 k a0 (([] : List ByteArray)) (⟨#[]⟩ : ByteArray) 0)) = some (r1, r2) := h
 clear h
 replace H := sp H
 rcases H with ⟨c2, H⟩ | ⟨c2, H⟩
 ·
  have c2b0 : decide (300 < (a0.size : Int)) = true := decide_eq_true c2
  have c2b1 : decide (300 < a0.size) = true := decide_eq_true (by omega)
  clear c2
  obtain ⟨y445, Ny445⟩ := nm ([] : List ByteArray)
  rw [← Ny445.out] at H
  obtain ⟨rfl, rfl⟩ := s2 H
  go_enter Tryz.func211, Tryz.ntmps211
  go_wp2_with (refine lRN 11 Kd.string 9 Ny445 ?_; intro v446 w3 ho4 hb; have HO447 := ak (Kd.R_lower ho4 (below_size (ul HB.out))); replace HB := bs HB hb; clear hb ho4)
  go_ret2
  exact ⟨_, er, ur HO447.out, ul HB.out⟩
 ·
  have c2b0 : decide (300 < (a0.size : Int)) = false := decide_eq_false c2
  have c2b1 : decide (300 < a0.size) = false := decide_eq_false (by omega)
  clear c2
  obtain ⟨y448, Ny448⟩ := nm ([] : List ByteArray)
  rw [← Ny448.out] at H
  have H' := ak H; clear H
  go_enter Tryz.func211, Tryz.ntmps211
  go_wp2_with (refine lRN 12 Kd.string 9 Ny448 ?_; intro v449 w5 ho6 hb; have HO450 := ak (Kd.R_lower ho6 (below_size (ul HB.out))); replace HB := bs HB hb; clear hb ho6)
  go_loopg [4, 5, 6] k (fun kq v4 v5 v6 w' => ∃ (x4_1 : List ByteArray) (x5_1 : ByteArray) (x6_1 : Int), v5 = .string x5_1 ∧ v6 = .int .i64 x6_1 ∧ Aside0 (spec_EncodeQuoted.l0 kq a0 x4_1 x5_1 x6_1 = some (r1, r2)) ∧ Aside0 (kq ≤ k) ∧ Aside0 (Kd.R Kd.string 9 w' w.heap.size (fun _ => True) v4 x4_1) ∧ Aside0 (Below w.heap.size w w'))
  case atStart => exact ⟨_, _, _, rs, rs, H', ⟨Nat.le_refl _⟩, ⟨ur HO450.out⟩, ⟨ul HB.out⟩⟩
  case round =>
   clear H'
   try clear c2
   try clear c2b0
   try clear c2b1
   obtain ⟨x4_1, x5_1, x6_1, rfl, rfl, HA, HK1, HO_4, HB⟩ := hrel
   cases gk with
   | zero => exact zz HA.out
   | succ k1 =>
    obtain ⟨H⟩ := HA
    simp only [spec_EncodeQuoted.l0] at H
    replace H := sd H
    rcases H with ⟨c7b0, H⟩ | ⟨c7b0, H⟩
    ·
     replace H := nde H; obtain ⟨c8b0, H⟩ := H; replace H := sq H
     rcases H with ⟨c10b0, c10b1, H⟩ | ⟨c10, c10b0, c10b1, H⟩
     ·
      replace H := nl H; obtain ⟨LMc11, H⟩ := H
      obtain ⟨y454, Ny454⟩ := nm (x4_1 ++ [x5_1])
      rw [← Ny454.out] at H
      have H' := ak H; clear H
      obtain ⟨p9, q9, hx9⟩ := bx a0 x6_1
      go_wp2_with (at_builtin; refine aP 23 25 Kd.string 23 9 (.string ⟨#[]⟩) 16 Tryz.underlying23 info9 HB (ur HO_4.out) Ny454 (by have := LMc11.out; omega) ?_; intro v455 w12 ho hb hg hat; have HO456 := ak (ho); replace HB := ak (hb); clear ho hb hg hat HO_4)
      go_roundg k1
      case measure => exact kl
      case rel => exact ⟨_, _, _, rs, rs, H', ⟨kl⟩, ⟨ur HO456.out⟩, ⟨ul HB.out⟩⟩
     ·
      replace H := sq H
      rcases H with ⟨c14b0, c14b1, H⟩ | ⟨c14, c14b0, c14b1, H⟩
      ·
       replace H := bd H; obtain ⟨t457, A15, H⟩ := H; replace H := sp H
       rcases H with ⟨c16, H⟩ | ⟨c16, H⟩
       ·
        have c16b0 : decide (39 < (wrap64 ((x5_1.size : Int) + (t457.size : Int)))) = true := decide_eq_true c16
        replace H := nn H; obtain ⟨c17, H⟩ := H
        (try (have c16b1 : decide (39 < ((x5_1.size : Int) + (t457.size : Int))) = true := decide_eq_true (by have h_ := c16; have h2_ := c17; unfold wrap64 at h_; omega)))
        clear c16
        have c17b0 := eq_true c17
        have c17b1 := decide_eq_true c17
        try have c17b2 : (9223372036854775807 < x5_1.size + 1) = False := eq_false (Nat.not_lt.2 c17)
        replace H := nl H; obtain ⟨LMc18, H⟩ := H
        obtain ⟨y458, Ny458⟩ := nm (x4_1 ++ [x5_1 ++ (⟨#[61]⟩ : ByteArray)])
        rw [← Ny458.out] at H
        replace H := nn H; obtain ⟨c19, H⟩ := H
        have c19b0 := eq_true c19
        have c19b1 := decide_eq_true c19
        try have c19b2 : (9223372036854775807 < 0 + t457.size) = False := eq_false (Nat.not_lt.2 c19)
        have H' := ak H; clear H
        obtain ⟨p9, q9, hx9⟩ := bx a0 x6_1
        try go_wp2
        replace HO_4 := ak (Kd.R_drew HO_4.out)
        replace HB := ak (below_drew1 HB.out)
        obtain ⟨p13, q13, hx13⟩ := bx a0 x6_1
        refine ro [15] [0, 1, 3, 4, 5, 6, 7, 8, 9, 10, 11, 12, 13, 14, 2, 15, 16] (fun w' => True) trivial ?_
        generalize wr.drew = w20 at HO_4 HB ⊢
        repeat (first | refine lo_ ?_ | refine lg_ ?_)
        refine rB Tryz.func218 (spec_l5Byte.calls A15.out) ?_
        intro w21 hb
        replace HO_4 := rb HO_4 hb
        replace HB := bs HB hb
        clear hb
        refine ⟨sx, ?_⟩
        repeat (first | refine lo_ ?_ | refine lg_ ?_)
        refine on ?_
        try go_wp2_with (at_builtin; refine aP 49 52 Kd.string 23 9 (.string ⟨#[]⟩) 16 Tryz.underlying23 info9 HB (ur HO_4.out) Ny458 (by have := LMc18.out; omega) ?_; intro v459 w22 ho hb hg hat; have HO460 := ak (ho); replace HB := ak (hb); clear ho hb hg hat HO_4)
        go_roundg k1
        case measure => exact kl
        case rel => exact ⟨_, _, _, rs, rs, H', ⟨kl⟩, ⟨ur HO460.out⟩, ⟨ul HB.out⟩⟩
       ·
        have c16b0 : decide (39 < (wrap64 ((x5_1.size : Int) + (t457.size : Int)))) = false := decide_eq_false c16
        replace H := nn H; obtain ⟨c23, H⟩ := H
        (try (have c16b1 : decide (39 < ((x5_1.size : Int) + (t457.size : Int))) = false := decide_eq_false (by have h_ := c16; have h2_ := c23; unfold wrap64 at h_; omega)))
        clear c16
        have c23b0 := eq_true c23
        have c23b1 := decide_eq_true c23
        try have c23b2 : (9223372036854775807 < x5_1.size + t457.size) = False := eq_false (Nat.not_lt.2 c23)
        have H' := ak H; clear H
        obtain ⟨p9, q9, hx9⟩ := bx a0 x6_1
        try go_wp2
        replace HO_4 := ak (Kd.R_drew HO_4.out)
        replace HB := ak (below_drew1 HB.out)
        obtain ⟨p13, q13, hx13⟩ := bx a0 x6_1
        refine ro [15] [0, 1, 3, 4, 5, 6, 7, 8, 9, 10, 11, 12, 13, 14, 2, 15, 16] (fun w' => True) trivial ?_
        generalize wr.drew = w24 at HO_4 HB ⊢
        repeat (first | refine lo_ ?_ | refine lg_ ?_)
        refine rB Tryz.func218 (spec_l5Byte.calls A15.out) ?_
        intro w25 hb
        replace HO_4 := rb HO_4 hb
        replace HB := bs HB hb
        clear hb
        refine ⟨sx, ?_⟩
        repeat (first | refine lo_ ?_ | refine lg_ ?_)
        refine on ?_
        try go_wp2
        go_roundg k1
        case measure => exact kl
        case rel => exact ⟨_, _, _, rs, rs, H', ⟨kl⟩, ⟨ur HO_4.out⟩, ⟨ul HB.out⟩⟩
      ·
       obtain ⟨ji26, hji26⟩ : ∃ j_ : Int, (wrap64 (x6_1 + 1)) = j_ := ⟨_, rfl⟩
       replace H : (if 0 ≤ (ji26) then (if (ji26) < (a0.size : Int) then ((spec_l5Byte.f (bt a0 x6_1) ((bt a0 (ji26)) == 10)).bind fun t461 => (if (wrap64 ((x5_1.size : Int) + (t461.size : Int))) > 39 then (if x5_1.size + 1 ≤ 9223372036854775807 then (if x4_1.length < 8796093022208 then (if 0 + t461.size ≤ 9223372036854775807 then (spec_EncodeQuoted.l0 k1 a0 (x4_1 ++ [x5_1 ++ (⟨#[61]⟩ : ByteArray)]) ((⟨#[]⟩ : ByteArray) ++ t461) ji26) else (none)) else (none)) else (none)) else (if x5_1.size + t461.size ≤ 9223372036854775807 then (spec_EncodeQuoted.l0 k1 a0 x4_1 (x5_1 ++ t461) ji26) else (none)))) else (none)) else (none)) = some (r1, r2) := by first | (rw [hji26] at H; exact H) | (simp only [hji26] at H ⊢; exact H)
       (try rw [hji26] at c14b0)
       (try rw [hji26] at c14b1)
       have hji26w : (IntKind.i64.wrap (x6_1 + 1)) = ji26 := (i64_w _).trans hji26
       replace H := nde H; obtain ⟨c27b0, H⟩ := H; replace H := nde H; obtain ⟨c28b0, H⟩ := H; replace H := bd H; obtain ⟨t461, A30, H⟩ := H; replace H := sp H
       rcases H with ⟨c31, H⟩ | ⟨c31, H⟩
       ·
        have c31b0 : decide (39 < (wrap64 ((x5_1.size : Int) + (t461.size : Int)))) = true := decide_eq_true c31
        replace H := nn H; obtain ⟨c32, H⟩ := H
        (try (have c31b1 : decide (39 < ((x5_1.size : Int) + (t461.size : Int))) = true := decide_eq_true (by have h_ := c31; have h2_ := c32; unfold wrap64 at h_; omega)))
        clear c31
        have c32b0 := eq_true c32
        have c32b1 := decide_eq_true c32
        try have c32b2 : (9223372036854775807 < x5_1.size + 1) = False := eq_false (Nat.not_lt.2 c32)
        replace H := nl H; obtain ⟨LMc33, H⟩ := H
        obtain ⟨y462, Ny462⟩ := nm (x4_1 ++ [x5_1 ++ (⟨#[61]⟩ : ByteArray)])
        rw [← Ny462.out] at H
        replace H := nn H; obtain ⟨c34, H⟩ := H
        have c34b0 := eq_true c34
        have c34b1 := decide_eq_true c34
        try have c34b2 : (9223372036854775807 < 0 + t461.size) = False := eq_false (Nat.not_lt.2 c34)
        have H' := ak H; clear H
        obtain ⟨p9, q9, hx9⟩ := bx a0 x6_1
        try go_wp2
        replace HO_4 := ak (Kd.R_drew HO_4.out)
        replace HB := ak (below_drew1 HB.out)
        obtain ⟨p13, q13, hx13⟩ := bx a0 x6_1
        obtain ⟨p29, q29, hx29⟩ := bx a0 (ji26)
        refine ro [15] [0, 1, 3, 4, 5, 6, 7, 8, 9, 10, 11, 2, 12, 13, 14, 15, 16] (fun w' => True) trivial ?_
        generalize wr.drew = w35 at HO_4 HB ⊢
        repeat refine lo_ ?_
        refine ld (N := some 42) (gk.trans rfl) rfl rfl (fun K hK => ?_)
        refine goes_ Tryz.func218 (by kernel_rfl) rfl #[.int .u8 (bt a0 x6_1), .bool ((bt a0 (ji26)) == 10)] (by rfl) rfl rfl (by (try simp only [List.map_toArray, List.map_cons, List.map_nil]); first | done | (simp only [hji26]; rfl) | rfl | (simp only [List.length_drop, List.length_take]; rfl)) ?_
        with_reducible refine (spec_l5Byte.calls A30.out).mono ?_
        rintro e w36 ⟨rfl, hb⟩
        refine ⟨_, rfl, ?_⟩
        replace HO_4 := rb HO_4 hb
        replace HB := bs HB hb
        try clear hb
        refine hK.out _ _ trivial ?_
        clear hK K
        refine no (a' := ?_) ?_ ?_
        rotate_left
        ·
         show Act.put _ (some 42) _ = _
         simp only [Act.put, l_a, l_b, l_c, i64_w, i32_w]
         rfl
        repeat refine lo_ ?_
        refine on ?_
        try go_wp2_with (at_builtin; refine aP 49 52 Kd.string 23 9 (.string ⟨#[]⟩) 16 Tryz.underlying23 info9 HB (ur HO_4.out) Ny462 (by have := LMc33.out; omega) ?_; intro v463 w37 ho hb hg hat; have HO464 := ak (ho); replace HB := ak (hb); clear ho hb hg hat HO_4)
        go_roundg k1
        case measure => exact kl
        case rel => exact ⟨_, _, _, rs, (by first | rfl | (simp; done) | (simp only [← hji26] <;> (first | rfl | simp)) | (simp [*]; done)), H', ⟨kl⟩, ⟨ur HO464.out⟩, ⟨ul HB.out⟩⟩
       ·
        have c31b0 : decide (39 < (wrap64 ((x5_1.size : Int) + (t461.size : Int)))) = false := decide_eq_false c31
        replace H := nn H; obtain ⟨c38, H⟩ := H
        (try (have c31b1 : decide (39 < ((x5_1.size : Int) + (t461.size : Int))) = false := decide_eq_false (by have h_ := c31; have h2_ := c38; unfold wrap64 at h_; omega)))
        clear c31
        have c38b0 := eq_true c38
        have c38b1 := decide_eq_true c38
        try have c38b2 : (9223372036854775807 < x5_1.size + t461.size) = False := eq_false (Nat.not_lt.2 c38)
        have H' := ak H; clear H
        obtain ⟨p9, q9, hx9⟩ := bx a0 x6_1
        try go_wp2
        replace HO_4 := ak (Kd.R_drew HO_4.out)
        replace HB := ak (below_drew1 HB.out)
        obtain ⟨p13, q13, hx13⟩ := bx a0 x6_1
        obtain ⟨p29, q29, hx29⟩ := bx a0 (ji26)
        refine ro [15] [0, 1, 3, 4, 5, 6, 7, 8, 9, 10, 11, 2, 12, 13, 14, 15, 16] (fun w' => True) trivial ?_
        generalize wr.drew = w39 at HO_4 HB ⊢
        repeat refine lo_ ?_
        refine ld (N := some 42) (gk.trans rfl) rfl rfl (fun K hK => ?_)
        refine goes_ Tryz.func218 (by kernel_rfl) rfl #[.int .u8 (bt a0 x6_1), .bool ((bt a0 (ji26)) == 10)] (by rfl) rfl rfl (by (try simp only [List.map_toArray, List.map_cons, List.map_nil]); first | done | (simp only [hji26]; rfl) | rfl | (simp only [List.length_drop, List.length_take]; rfl)) ?_
        with_reducible refine (spec_l5Byte.calls A30.out).mono ?_
        rintro e w40 ⟨rfl, hb⟩
        refine ⟨_, rfl, ?_⟩
        replace HO_4 := rb HO_4 hb
        replace HB := bs HB hb
        try clear hb
        refine hK.out _ _ trivial ?_
        clear hK K
        refine no (a' := ?_) ?_ ?_
        rotate_left
        ·
         show Act.put _ (some 42) _ = _
         simp only [Act.put, l_a, l_b, l_c, i64_w, i32_w]
         rfl
        repeat refine lo_ ?_
        refine on ?_
        try go_wp2
        go_roundg k1
        case measure => exact kl
        case rel => exact ⟨_, _, _, rs, (by first | rfl | (simp; done) | (simp only [← hji26] <;> (first | rfl | simp)) | (simp [*]; done)), H', ⟨kl⟩, ⟨ur HO_4.out⟩, ⟨ul HB.out⟩⟩
    ·
     replace H := nl H; obtain ⟨LMc41, H⟩ := H
     obtain ⟨y451, Ny451⟩ := nm (x4_1 ++ [x5_1])
     rw [← Ny451.out] at H
     obtain ⟨rfl, rfl⟩ := s2 H
     go_wp2_with (at_builtin; refine aP 57 59 Kd.string 23 9 (.string ⟨#[]⟩) 16 Tryz.underlying23 info9 HB (ur HO_4.out) Ny451 (by have := LMc41.out; omega) ?_; intro v452 w42 ho hb hg hat; have HO453 := ak (ho); replace HB := ak (hb); clear ho hb hg hat HO_4)
     go_ret2
     exact ⟨_, er, ur HO453.out, ul HB.out⟩
end Go.Proofs.YtncdadcmghglkaaGreatDoor.PFnPartSame
