/- Written by a program of this session out of the translation: each Go function named below as a Lean function, and the proof that the call answers as that function does; conditions: those in each statement. -/
import Derived.Test.YtncdadcmghglkaaDoorVFnDecodeNameYt
import Derived.Test.YtncdadcmghglkaaDoorPFnDecodeNamex0
import Derived.Test.YtncdadcmghglkaaDoorPFnDecodeNamex5
import Derived.Test.YtncdadcmghglkaaDoorPFnDecodeNamex6
-- short
-- dense
namespace Go.Proofs.YtncdadcmghglkaaDoor.PFnDecodeName
open Go.RowKit Go.Proofs.YtncdadcmghglkaaDoor.X Go.Proofs.YtncdadcmghglkaaDoorW.PrintWords Go.Proofs.YtncdadcmghglkaaDoorW.PrintLast Go.Proofs.YtncdadcmghglkaaDoorW.PrintMore
attribute [local go_sem] max2_int min2_int max_two min_two max_three min_three max_four min_four   -- for this text's walks alone
set_option linter.unusedVariables false
set_option linter.unusedSimpArgs false

/-! ### spec_DecodeName: function 6 -/
def spec_DecodeName.l0 : Nat → List ByteArray → ByteArray → Bool → Int → Option (ByteArray × Bool)
 | 0, _, _, _, _ => none
 | k + 1, x4, x5, x6, x7 => if x7 < (x4.length : Int) then (if 0 ≤ x7 then ((spec_ReadCodeWord.f k (rdOf ByteArray.empty x4 x7)).bind fun bt230 => (if bt230.2 = true then (if x7 > 0 then (if x6 = true then (if x5.size + bt230.1.size ≤ 9223372036854775807 then (spec_DecodeName.l0 k x4 (x5 ++ bt230.1) bt230.2 (wrap64 (x7 + 1))) else (none)) else (if x5.size + 1 ≤ 9223372036854775807 then (if (x5 ++ (⟨#[32]⟩ : ByteArray)).size + bt230.1.size ≤ 9223372036854775807 then (spec_DecodeName.l0 k x4 ((x5 ++ (⟨#[32]⟩ : ByteArray)) ++ bt230.1) bt230.2 (wrap64 (x7 + 1))) else (none)) else (none))) else (if x5.size + bt230.1.size ≤ 9223372036854775807 then (spec_DecodeName.l0 k x4 (x5 ++ bt230.1) bt230.2 (wrap64 (x7 + 1))) else (none))) else (if x7 > 0 then (if x5.size + 1 ≤ 9223372036854775807 then (if (x5 ++ (⟨#[32]⟩ : ByteArray)).size + (rdOf ByteArray.empty x4 x7).size ≤ 9223372036854775807 then (spec_DecodeName.l0 k x4 ((x5 ++ (⟨#[32]⟩ : ByteArray)) ++ (rdOf ByteArray.empty x4 x7)) bt230.2 (wrap64 (x7 + 1))) else (none)) else (none)) else (if x5.size + (rdOf ByteArray.empty x4 x7).size ≤ 9223372036854775807 then (spec_DecodeName.l0 k x4 (x5 ++ (rdOf ByteArray.empty x4 x7)) bt230.2 (wrap64 (x7 + 1))) else (none))))) else (none)) else (if (x5.size : Int) > 120 then (some ((⟨#[]⟩ : ByteArray), false)) else (some (x5, true)))
def spec_DecodeName.f (k : Nat) (a0 : ByteArray) : Option (ByteArray × Bool) := if (a0.size : Int) > 600 then (some ((⟨#[]⟩ : ByteArray), false)) else ((spec_l2Parts.f k a0 32).bind fun t226 => (spec_DecodeName.l0 k t226 (⟨#[]⟩ : ByteArray) false 0))
set_option maxHeartbeats 8000000 in
set_option maxRecDepth 100000 in
theorem spec_DecodeName.calls (k : Nat) (a0 : ByteArray) (r1 : ByteArray) (r2 : Bool) (w : World) (h : spec_DecodeName.f k a0 = some (r1, r2)) :
  Calls Tryd.prog 6 #[.string a0] w fun e w' => e = .returned (.tuple #[.string r1, .bool r2]) ∧ Below w.heap.size w w' := by
 have HB := Aside0.mk (Below.refl w.heap.size w)
 have H : (if (a0.size : Int) > 600 then (some ((⟨#[]⟩ : ByteArray), false)) else ((spec_l2Parts.f k a0 32).bind fun t226 => (spec_DecodeName.l0 k t226 (⟨#[]⟩ : ByteArray) false 0))) = some (r1, r2) := h
 clear h
 by_cases c2 : (a0.size : Int) > 600
 ·
  rw [if_pos c2] at H
  have c2b0 : decide (600 < (a0.size : Int)) = true := decide_eq_true c2
  have c2b1 : decide (600 < a0.size) = true := decide_eq_true (by omega)
  clear c2
  simp only [Option.some.injEq, Prod.mk.injEq] at H
  obtain ⟨rfl, rfl⟩ := H
  go_enter Tryd.func6, Tryd.ntmps6
  go_wp2
  go_ret2
  exact ⟨er, ul HB.out⟩
 ·
  rw [if_neg c2] at H
  have c2b0 : decide (600 < (a0.size : Int)) = false := decide_eq_false c2
  have c2b1 : decide (600 < a0.size) = false := decide_eq_false (by omega)
  clear c2
  replace H := Option.bind_eq_some_iff.mp H
  obtain ⟨t226, A30, H⟩ := H
  replace H : (spec_DecodeName.l0 k t226 (⟨#[]⟩ : ByteArray) false 0) = some (r1, r2) := H
  have A3 := Aside0.mk A30
  clear A30
  have H' := Aside0.mk H
  clear H
  go_enter Tryd.func6, Tryd.ntmps6
  go_wp2_with (first | ((with_reducible refine gate_callee (f := 14) rfl ?_); refine goesL_ (some 14) rfl rfl Tryd.func14 (by kernel_rfl) rfl #[.string a0, .int .u8 32] rfl ma ?_; (with_reducible refine (spec_l2Parts.calls k a0 32 t226 _ A3.out).mono ?_); rintro e w4 ⟨v227, rfl, ho0, hb⟩; refine ⟨_, rfl, ?_⟩; have n0_ := Aside0.mk (Kd.R_lower ho0 (below_size (ul HB.out))); have n1_ := Aside0.mk (below_step (ul HB.out) hb); clear HB; have HO228 := n0_; have HB := n1_; clear n0_ n1_; (try clear hb); (try clear hb2); (try clear hk); (try clear hi); (try clear ho0)))
  go_loopg [5, 6, 7] k (fun kq v5 v6 v7 w' => ∃ (x5_1 : ByteArray) (x6_1 : Bool) (x7_1 : Int), v5 = .string x5_1 ∧ v6 = .bool x6_1 ∧ v7 = .int .i64 x7_1 ∧ Aside0 (spec_DecodeName.l0 kq t226 x5_1 x6_1 x7_1 = some (r1, r2)) ∧ Aside0 (kq ≤ k) ∧ Aside0 (Kd.R Kd.string 9 w' w.heap.size (fun _ => True) v227 t226) ∧ Aside0 (Below w.heap.size w w'))
  case atStart => exact ⟨((⟨#[]⟩ : ByteArray)), (false), (0), rs, rs, rs, H', ⟨Nat.le_refl _⟩, ⟨ur HO228.out⟩, ⟨ul HB.out⟩⟩
  case round =>
   clear H'
   try clear c1
   try clear c2
   try clear c2b0
   try clear c2b1
   try clear p2
   obtain ⟨x5_1, x6_1, x7_1, rfl, rfl, rfl, HA, HK1, HO_4, HB⟩ := hrel
   cases gk with
   | zero => exact absurd HA.out (by simp [spec_DecodeName.l0])
   | succ k1 =>
    have H := HA.out
    clear HA
    simp only [spec_DecodeName.l0] at H
    by_cases c5 : x7_1 < (t226.length : Int)
    ·
     rw [if_pos c5] at H
     have c5b0 : decide (x7_1 < (t226.length : Int)) = true := decide_eq_true c5
     clear c5
     by_cases c6 : 0 ≤ x7_1
     ·
      rw [if_pos c6] at H
      have c6b0 : decide (0 ≤ x7_1) = true := decide_eq_true c6
      clear c6
      replace H := Option.bind_eq_some_iff.mp H
      obtain ⟨⟨t230, t231⟩, A70, H⟩ := H
      replace H : (if t231 = true then (if x7_1 > 0 then (if x6_1 = true then (if x5_1.size + t230.size ≤ 9223372036854775807 then (spec_DecodeName.l0 k1 t226 (x5_1 ++ t230) t231 (wrap64 (x7_1 + 1))) else (none)) else (if x5_1.size + 1 ≤ 9223372036854775807 then (if (x5_1 ++ (⟨#[32]⟩ : ByteArray)).size + t230.size ≤ 9223372036854775807 then (spec_DecodeName.l0 k1 t226 ((x5_1 ++ (⟨#[32]⟩ : ByteArray)) ++ t230) t231 (wrap64 (x7_1 + 1))) else (none)) else (none))) else (if x5_1.size + t230.size ≤ 9223372036854775807 then (spec_DecodeName.l0 k1 t226 (x5_1 ++ t230) t231 (wrap64 (x7_1 + 1))) else (none))) else (if x7_1 > 0 then (if x5_1.size + 1 ≤ 9223372036854775807 then (if (x5_1 ++ (⟨#[32]⟩ : ByteArray)).size + (rdOf ByteArray.empty t226 x7_1).size ≤ 9223372036854775807 then (spec_DecodeName.l0 k1 t226 ((x5_1 ++ (⟨#[32]⟩ : ByteArray)) ++ (rdOf ByteArray.empty t226 x7_1)) t231 (wrap64 (x7_1 + 1))) else (none)) else (none)) else (if x5_1.size + (rdOf ByteArray.empty t226 x7_1).size ≤ 9223372036854775807 then (spec_DecodeName.l0 k1 t226 (x5_1 ++ (rdOf ByteArray.empty t226 x7_1)) t231 (wrap64 (x7_1 + 1))) else (none)))) = some (r1, r2) := H
      have A7 := Aside0.mk A70
      clear A70
      by_cases c8 : t231 = true
      ·
       subst c8
       have H1 : (if x7_1 > 0 then (if x6_1 = true then (if x5_1.size + t230.size ≤ 9223372036854775807 then (spec_DecodeName.l0 k1 t226 (x5_1 ++ t230) true (wrap64 (x7_1 + 1))) else (none)) else (if x5_1.size + 1 ≤ 9223372036854775807 then (if (x5_1 ++ (⟨#[32]⟩ : ByteArray)).size + t230.size ≤ 9223372036854775807 then (spec_DecodeName.l0 k1 t226 ((x5_1 ++ (⟨#[32]⟩ : ByteArray)) ++ t230) true (wrap64 (x7_1 + 1))) else (none)) else (none))) else (if x5_1.size + t230.size ≤ 9223372036854775807 then (spec_DecodeName.l0 k1 t226 (x5_1 ++ t230) true (wrap64 (x7_1 + 1))) else (none))) = some (r1, r2) := by rw [if_pos rfl] at H; exact H
       clear H
       have H := H1
       clear H1
       by_cases c9 : x7_1 > 0
       ·
        rw [if_pos c9] at H
        have c9b0 : decide (0 < x7_1) = true := decide_eq_true c9
        clear c9
        by_cases c10 : x6_1 = true
        ·
         subst c10
         have H1 : (if x5_1.size + t230.size ≤ 9223372036854775807 then (spec_DecodeName.l0 k1 t226 (x5_1 ++ t230) true (wrap64 (x7_1 + 1))) else (none)) = some (r1, r2) := by rw [if_pos rfl] at H; exact H
         clear H
         have H := H1
         clear H1
         by_cases c11 : x5_1.size + t230.size ≤ 9223372036854775807
         ·
          rw [if_pos c11] at H
          have c11b0 := eq_true c11
          have c11b1 : decide (x5_1.size + t230.size ≤ 9223372036854775807) = true := decide_eq_true c11
          try have c11b2 : (9223372036854775807 < x5_1.size + t230.size) = False := eq_false (Nat.not_lt.2 c11)
          have H' := Aside0.mk H
          clear H
          obtain ⟨Ao12, co12, eo12⟩ := Kd.R_slice HO_4.out
          subst eo12
          have p229 : 0 ≤ (x7_1 : Int) := of_decide_eq_true (by assumption)
          have q229 : x7_1 < (t226.length : Int) := of_decide_eq_true (by assumption)
          obtain ⟨ad229, e229, hx229_0⟩ := Kd.at_string (Kd.R_reads' HO_4.out).2.2 x7_1 p229 q229
          cases e229
          replace p229 := eq_true p229
          replace q229 := eq_true q229
          go_wp2_with (first | ((with_reducible refine gate_callee (f := 15) rfl ?_); refine goesL_ (some 26) rfl rfl Tryd.func15 (by kernel_rfl) rfl #[.string (rdOf ByteArray.empty t226 x7_1)] rfl ma ?_; (with_reducible refine (spec_ReadCodeWord.calls k1 (rdOf ByteArray.empty t226 x7_1) t230 true _ A7.out).mono ?_); rintro e w13 ⟨rfl, hb⟩; refine ⟨_, rfl, ?_⟩; have n0_ := Aside0.mk (Kd.R_below (ur HO_4.out) hb); have n1_ := Aside0.mk (below_step (ul HB.out) hb); clear HO_4; clear HB; have HO_4 := n0_; have HB := n1_; clear n0_ n1_; (try clear hb); (try clear hb2); (try clear hk); (try clear hi)))
          go_roundg k1
          case measure => have := HK1.out; omega
          case rel => exact ⟨(x5_1 ++ t230), (true), (wrap64 (x7_1 + 1)), rs, rs, rs, H', ⟨by have := HK1.out; omega⟩, ⟨ur HO_4.out⟩, ⟨ul HB.out⟩⟩
         ·
          rw [if_neg c11] at H
          exact absurd H (by simp)
        ·
         replace c10 := Bool.eq_false_iff.mpr c10
         subst c10
         have H1 : (if x5_1.size + 1 ≤ 9223372036854775807 then (if (x5_1 ++ (⟨#[32]⟩ : ByteArray)).size + t230.size ≤ 9223372036854775807 then (spec_DecodeName.l0 k1 t226 ((x5_1 ++ (⟨#[32]⟩ : ByteArray)) ++ t230) true (wrap64 (x7_1 + 1))) else (none)) else (none)) = some (r1, r2) := by rw [if_neg (show ¬ (false = true) by decide)] at H; exact H
         clear H
         have H := H1
         clear H1
         by_cases c14 : x5_1.size + 1 ≤ 9223372036854775807
         ·
          rw [if_pos c14] at H
          have c14b0 := eq_true c14
          have c14b1 : decide (x5_1.size + 1 ≤ 9223372036854775807) = true := decide_eq_true c14
          try have c14b2 : (9223372036854775807 < x5_1.size + 1) = False := eq_false (Nat.not_lt.2 c14)
          by_cases c15 : (x5_1 ++ (⟨#[32]⟩ : ByteArray)).size + t230.size ≤ 9223372036854775807
          ·
           rw [if_pos c15] at H
           have c15b0 := eq_true c15
           have c15b1 : decide ((x5_1 ++ (⟨#[32]⟩ : ByteArray)).size + t230.size ≤ 9223372036854775807) = true := decide_eq_true c15
           try have c15b3 : (9223372036854775807 < x5_1.size + 1 + t230.size) = False := by have h_ := (eq_false (Nat.not_lt.2 c15) : (9223372036854775807 < (x5_1 ++ (⟨#[32]⟩ : ByteArray)).size + t230.size) = False); simp only [ByteArray.size_append] at h_; exact h_
           try have c15b2 : (9223372036854775807 < (x5_1 ++ (⟨#[32]⟩ : ByteArray)).size + t230.size) = False := eq_false (Nat.not_lt.2 c15)
           have H' := Aside0.mk H
           clear H
           obtain ⟨Ao16, co16, eo16⟩ := Kd.R_slice HO_4.out
           subst eo16
           have p229 : 0 ≤ (x7_1 : Int) := of_decide_eq_true (by assumption)
           have q229 : x7_1 < (t226.length : Int) := of_decide_eq_true (by assumption)
           obtain ⟨ad229, e229, hx229_0⟩ := Kd.at_string (Kd.R_reads' HO_4.out).2.2 x7_1 p229 q229
           cases e229
           replace p229 := eq_true p229
           replace q229 := eq_true q229
           go_wp2_with (first | ((with_reducible refine gate_callee (f := 15) rfl ?_); refine goesL_ (some 26) rfl rfl Tryd.func15 (by kernel_rfl) rfl #[.string (rdOf ByteArray.empty t226 x7_1)] rfl ma ?_; (with_reducible refine (spec_ReadCodeWord.calls k1 (rdOf ByteArray.empty t226 x7_1) t230 true _ A7.out).mono ?_); rintro e w17 ⟨rfl, hb⟩; refine ⟨_, rfl, ?_⟩; have n0_ := Aside0.mk (Kd.R_below (ur HO_4.out) hb); have n1_ := Aside0.mk (below_step (ul HB.out) hb); clear HO_4; clear HB; have HO_4 := n0_; have HB := n1_; clear n0_ n1_; (try clear hb); (try clear hb2); (try clear hk); (try clear hi)))
           go_roundg k1
           case measure => have := HK1.out; omega
           case rel => exact ⟨((x5_1 ++ (⟨#[32]⟩ : ByteArray)) ++ t230), (true), (wrap64 (x7_1 + 1)), rs, rs, rs, H', ⟨by have := HK1.out; omega⟩, ⟨ur HO_4.out⟩, ⟨ul HB.out⟩⟩
          ·
           rw [if_neg c15] at H
           exact absurd H (by simp)
         ·
          rw [if_neg c14] at H
          exact absurd H (by simp)
       ·
        rw [if_neg c9] at H
        have c9b0 : decide (0 < x7_1) = false := decide_eq_false c9
        clear c9
        by_cases c18 : x5_1.size + t230.size ≤ 9223372036854775807
        ·
         rw [if_pos c18] at H
         have c18b0 := eq_true c18
         have c18b1 : decide (x5_1.size + t230.size ≤ 9223372036854775807) = true := decide_eq_true c18
         try have c18b2 : (9223372036854775807 < x5_1.size + t230.size) = False := eq_false (Nat.not_lt.2 c18)
         have H' := Aside0.mk H
         clear H
         obtain ⟨Ao19, co19, eo19⟩ := Kd.R_slice HO_4.out
         subst eo19
         have p229 : 0 ≤ (x7_1 : Int) := of_decide_eq_true (by assumption)
         have q229 : x7_1 < (t226.length : Int) := of_decide_eq_true (by assumption)
         obtain ⟨ad229, e229, hx229_0⟩ := Kd.at_string (Kd.R_reads' HO_4.out).2.2 x7_1 p229 q229
         cases e229
         replace p229 := eq_true p229
         replace q229 := eq_true q229
         go_wp2_with (first | ((with_reducible refine gate_callee (f := 15) rfl ?_); refine goesL_ (some 26) rfl rfl Tryd.func15 (by kernel_rfl) rfl #[.string (rdOf ByteArray.empty t226 x7_1)] rfl ma ?_; (with_reducible refine (spec_ReadCodeWord.calls k1 (rdOf ByteArray.empty t226 x7_1) t230 true _ A7.out).mono ?_); rintro e w20 ⟨rfl, hb⟩; refine ⟨_, rfl, ?_⟩; have n0_ := Aside0.mk (Kd.R_below (ur HO_4.out) hb); have n1_ := Aside0.mk (below_step (ul HB.out) hb); clear HO_4; clear HB; have HO_4 := n0_; have HB := n1_; clear n0_ n1_; (try clear hb); (try clear hb2); (try clear hk); (try clear hi)))
         go_roundg k1
         case measure => have := HK1.out; omega
         case rel => exact ⟨(x5_1 ++ t230), (true), (wrap64 (x7_1 + 1)), rs, rs, rs, H', ⟨by have := HK1.out; omega⟩, ⟨ur HO_4.out⟩, ⟨ul HB.out⟩⟩
        ·
         rw [if_neg c18] at H
         exact absurd H (by simp)
      ·
       replace c8 := Bool.eq_false_iff.mpr c8
       subst c8
       have H1 : (if x7_1 > 0 then (if x5_1.size + 1 ≤ 9223372036854775807 then (if (x5_1 ++ (⟨#[32]⟩ : ByteArray)).size + (rdOf ByteArray.empty t226 x7_1).size ≤ 9223372036854775807 then (spec_DecodeName.l0 k1 t226 ((x5_1 ++ (⟨#[32]⟩ : ByteArray)) ++ (rdOf ByteArray.empty t226 x7_1)) false (wrap64 (x7_1 + 1))) else (none)) else (none)) else (if x5_1.size + (rdOf ByteArray.empty t226 x7_1).size ≤ 9223372036854775807 then (spec_DecodeName.l0 k1 t226 (x5_1 ++ (rdOf ByteArray.empty t226 x7_1)) false (wrap64 (x7_1 + 1))) else (none))) = some (r1, r2) := by rw [if_neg (show ¬ (false = true) by decide)] at H; exact H
       clear H
       have H := H1
       clear H1
       by_cases c21 : x7_1 > 0
       ·
        rw [if_pos c21] at H
        have c21b0 : decide (0 < x7_1) = true := decide_eq_true c21
        clear c21
        by_cases c22 : x5_1.size + 1 ≤ 9223372036854775807
        ·
         rw [if_pos c22] at H
         have c22b0 := eq_true c22
         have c22b1 : decide (x5_1.size + 1 ≤ 9223372036854775807) = true := decide_eq_true c22
         try have c22b2 : (9223372036854775807 < x5_1.size + 1) = False := eq_false (Nat.not_lt.2 c22)
         by_cases c23 : (x5_1 ++ (⟨#[32]⟩ : ByteArray)).size + (rdOf ByteArray.empty t226 x7_1).size ≤ 9223372036854775807
         ·
          rw [if_pos c23] at H
          have c23b0 := eq_true c23
          have c23b1 : decide ((x5_1 ++ (⟨#[32]⟩ : ByteArray)).size + (rdOf ByteArray.empty t226 x7_1).size ≤ 9223372036854775807) = true := decide_eq_true c23
          try have c23b3 : (9223372036854775807 < x5_1.size + 1 + (rdOf ByteArray.empty t226 x7_1).size) = False := by have h_ := (eq_false (Nat.not_lt.2 c23) : (9223372036854775807 < (x5_1 ++ (⟨#[32]⟩ : ByteArray)).size + (rdOf ByteArray.empty t226 x7_1).size) = False); simp only [ByteArray.size_append] at h_; exact h_
          try have c23b2 : (9223372036854775807 < (x5_1 ++ (⟨#[32]⟩ : ByteArray)).size + (rdOf ByteArray.empty t226 x7_1).size) = False := eq_false (Nat.not_lt.2 c23)
          have H' := Aside0.mk H
          clear H
          obtain ⟨Ao24, co24, eo24⟩ := Kd.R_slice HO_4.out
          subst eo24
          have p229 : 0 ≤ (x7_1 : Int) := of_decide_eq_true (by assumption)
          have q229 : x7_1 < (t226.length : Int) := of_decide_eq_true (by assumption)
          obtain ⟨ad229, e229, hx229_0⟩ := Kd.at_string (Kd.R_reads' HO_4.out).2.2 x7_1 p229 q229
          cases e229
          replace p229 := eq_true p229
          replace q229 := eq_true q229
          go_wp2_with (first | ((with_reducible refine gate_callee (f := 15) rfl ?_); refine goesL_ (some 26) rfl rfl Tryd.func15 (by kernel_rfl) rfl #[.string (rdOf ByteArray.empty t226 x7_1)] rfl ma ?_; (with_reducible refine (spec_ReadCodeWord.calls k1 (rdOf ByteArray.empty t226 x7_1) t230 false _ A7.out).mono ?_); rintro e w25 ⟨rfl, hb⟩; refine ⟨_, rfl, ?_⟩; have n0_ := Aside0.mk (Kd.R_below (ur HO_4.out) hb); have n1_ := Aside0.mk (below_step (ul HB.out) hb); clear HO_4; clear HB; have HO_4 := n0_; have HB := n1_; clear n0_ n1_; (try clear hb); (try clear hb2); (try clear hk); (try clear hi); have p232 : 0 ≤ (x7_1 : Int) := of_decide_eq_true (by assumption); have q232 : x7_1 < (t226.length : Int) := of_decide_eq_true (by assumption); obtain ⟨ad232, e232, hx232_0⟩ := Kd.at_string (Kd.R_reads' HO_4.out).2.2 x7_1 p232 q232; obtain rfl : ad229 = ad232 := (by injection e232); replace p232 := eq_true p232; replace q232 := eq_true q232))
          go_roundg k1
          case measure => have := HK1.out; omega
          case rel => exact ⟨((x5_1 ++ (⟨#[32]⟩ : ByteArray)) ++ (rdOf ByteArray.empty t226 x7_1)), (false), (wrap64 (x7_1 + 1)), rs, rs, rs, H', ⟨by have := HK1.out; omega⟩, ⟨ur HO_4.out⟩, ⟨ul HB.out⟩⟩
         ·
          rw [if_neg c23] at H
          exact absurd H (by simp)
        ·
         rw [if_neg c22] at H
         exact absurd H (by simp)
       ·
        rw [if_neg c21] at H
        have c21b0 : decide (0 < x7_1) = false := decide_eq_false c21
        clear c21
        by_cases c26 : x5_1.size + (rdOf ByteArray.empty t226 x7_1).size ≤ 9223372036854775807
        ·
         rw [if_pos c26] at H
         have c26b0 := eq_true c26
         have c26b1 : decide (x5_1.size + (rdOf ByteArray.empty t226 x7_1).size ≤ 9223372036854775807) = true := decide_eq_true c26
         try have c26b2 : (9223372036854775807 < x5_1.size + (rdOf ByteArray.empty t226 x7_1).size) = False := eq_false (Nat.not_lt.2 c26)
         have H' := Aside0.mk H
         clear H
         obtain ⟨Ao27, co27, eo27⟩ := Kd.R_slice HO_4.out
         subst eo27
         have p229 : 0 ≤ (x7_1 : Int) := of_decide_eq_true (by assumption)
         have q229 : x7_1 < (t226.length : Int) := of_decide_eq_true (by assumption)
         obtain ⟨ad229, e229, hx229_0⟩ := Kd.at_string (Kd.R_reads' HO_4.out).2.2 x7_1 p229 q229
         cases e229
         replace p229 := eq_true p229
         replace q229 := eq_true q229
         go_wp2_with (first | ((with_reducible refine gate_callee (f := 15) rfl ?_); refine goesL_ (some 26) rfl rfl Tryd.func15 (by kernel_rfl) rfl #[.string (rdOf ByteArray.empty t226 x7_1)] rfl ma ?_; (with_reducible refine (spec_ReadCodeWord.calls k1 (rdOf ByteArray.empty t226 x7_1) t230 false _ A7.out).mono ?_); rintro e w28 ⟨rfl, hb⟩; refine ⟨_, rfl, ?_⟩; have n0_ := Aside0.mk (Kd.R_below (ur HO_4.out) hb); have n1_ := Aside0.mk (below_step (ul HB.out) hb); clear HO_4; clear HB; have HO_4 := n0_; have HB := n1_; clear n0_ n1_; (try clear hb); (try clear hb2); (try clear hk); (try clear hi); have p232 : 0 ≤ (x7_1 : Int) := of_decide_eq_true (by assumption); have q232 : x7_1 < (t226.length : Int) := of_decide_eq_true (by assumption); obtain ⟨ad232, e232, hx232_0⟩ := Kd.at_string (Kd.R_reads' HO_4.out).2.2 x7_1 p232 q232; obtain rfl : ad229 = ad232 := (by injection e232); replace p232 := eq_true p232; replace q232 := eq_true q232))
         go_roundg k1
         case measure => have := HK1.out; omega
         case rel => exact ⟨(x5_1 ++ (rdOf ByteArray.empty t226 x7_1)), (false), (wrap64 (x7_1 + 1)), rs, rs, rs, H', ⟨by have := HK1.out; omega⟩, ⟨ur HO_4.out⟩, ⟨ul HB.out⟩⟩
        ·
         rw [if_neg c26] at H
         exact absurd H (by simp)
     ·
      rw [if_neg c6] at H
      exact absurd H (by simp)
    ·
     rw [if_neg c5] at H
     have c5b0 : decide (x7_1 < (t226.length : Int)) = false := decide_eq_false c5
     clear c5
     by_cases c29 : (x5_1.size : Int) > 120
     ·
      rw [if_pos c29] at H
      have c29b0 : decide (120 < (x5_1.size : Int)) = true := decide_eq_true c29
      have c29b1 : decide (120 < x5_1.size) = true := decide_eq_true (by omega)
      clear c29
      simp only [Option.some.injEq, Prod.mk.injEq] at H
      obtain ⟨rfl, rfl⟩ := H
      obtain ⟨Ao30, co30, eo30⟩ := Kd.R_slice HO_4.out
      subst eo30
      go_wp2
      go_ret2
      exact ⟨er, ul HB.out⟩
     ·
      rw [if_neg c29] at H
      have c29b0 : decide (120 < (x5_1.size : Int)) = false := decide_eq_false c29
      have c29b1 : decide (120 < x5_1.size) = false := decide_eq_false (by omega)
      clear c29
      simp only [Option.some.injEq, Prod.mk.injEq] at H
      obtain ⟨rfl, rfl⟩ := H
      obtain ⟨Ao31, co31, eo31⟩ := Kd.R_slice HO_4.out
      subst eo31
      go_wp2
      go_ret2
      exact ⟨er, ul HB.out⟩

/-! ### impl_TextValid: function 29 -/
def impl_TextValid.l0 : Nat → ByteArray → Int → Int → Option (Bool)
 | 0, _, _, _ => none
 | k + 1, x0, x5, x6 => if x6 < x5 then (if 0 ≤ x6 then (if x6 < (x0.size : Int) then (if (bt x0 x6) < 32 then (some false) else (if (bt x0 x6) > 126 then (some false) else (impl_TextValid.l0 k x0 x5 (wrap64 (x6 + 1))))) else (none)) else (none)) else (some (decide ((x0.size : Int) ≤ 200)))
def impl_TextValid.f (k : Nat) (a0 : ByteArray) : Option (Bool) := impl_TextValid.l0 k a0 (a0.size : Int) 0
set_option maxHeartbeats 8000000 in
set_option maxRecDepth 100000 in
theorem impl_TextValid.calls (k : Nat) (a0 : ByteArray) (r : Bool) (w : World) (h : impl_TextValid.f k a0 = some r) :
  Calls Tryd.prog 29 #[.string a0] w fun e w' => e = .returned (.bool r) ∧ Drawn0 w w' := by
 have H : (impl_TextValid.l0 k a0 (a0.size : Int) 0) = some r := h
 clear h
 have H' := Aside0.mk H
 clear H
 go_enter Tryd.func29, Tryd.ntmps29
 go_wp2
 go_loopg [6] k (fun kq v6 w' => ∃ (x6_1 : Int), v6 = .int .i64 x6_1 ∧ Aside0 (impl_TextValid.l0 kq a0 (a0.size : Int) x6_1 = some r) ∧ Aside0 (kq ≤ k) ∧ Drawn0 w w')
 case atStart => exact ⟨(0), rs, H', ⟨Nat.le_refl _⟩, by repeat (first | exact Drawn0.refl _ | apply Drawn0.step)⟩
 case round =>
  clear H'
  obtain ⟨x6_1, rfl, HA, HK1, ⟨m1, rfl⟩⟩ := hrel
  cases gk with
  | zero => exact absurd HA.out (by simp [impl_TextValid.l0])
  | succ k1 =>
   have H := HA.out
   clear HA
   simp only [impl_TextValid.l0] at H
   by_cases c2 : x6_1 < (a0.size : Int)
   ·
    rw [if_pos c2] at H
    have c2b0 : decide (x6_1 < (a0.size : Int)) = true := decide_eq_true c2
    clear c2
    by_cases c3 : 0 ≤ x6_1
    ·
     rw [if_pos c3] at H
     have c3b0 : decide (0 ≤ x6_1) = true := decide_eq_true c3
     clear c3
     by_cases c4 : x6_1 < (a0.size : Int)
     ·
      rw [if_pos c4] at H
      have c4b0 : decide (x6_1 < (a0.size : Int)) = true := decide_eq_true c4
      clear c4
      by_cases c6 : (bt a0 x6_1) < 32
      ·
       rw [if_pos c6] at H
       have c6b0 : decide ((bt a0 x6_1) < 32) = true := decide_eq_true c6
       clear c6
       obtain rfl := Option.some.inj H
       have p5 : 0 ≤ (x6_1 : Int) := of_decide_eq_true (by assumption)
       have q5 : x6_1 < (a0.size : Int) := of_decide_eq_true (by assumption)
       have hx5 := bt_at a0 x6_1
       replace p5 := eq_true p5
       replace q5 := eq_true q5
       go_wp2
       go_ret
       exact ⟨by first | rfl | (simp; done) | (simp [*]; done), by repeat (first | exact Drawn0.refl _ | apply Drawn0.step)⟩
      ·
       rw [if_neg c6] at H
       have c6b0 : decide ((bt a0 x6_1) < 32) = false := decide_eq_false c6
       clear c6
       by_cases c8 : (bt a0 x6_1) > 126
       ·
        rw [if_pos c8] at H
        have c8b0 : decide (126 < (bt a0 x6_1)) = true := decide_eq_true c8
        clear c8
        obtain rfl := Option.some.inj H
        have p5 : 0 ≤ (x6_1 : Int) := of_decide_eq_true (by assumption)
        have q5 : x6_1 < (a0.size : Int) := of_decide_eq_true (by assumption)
        have hx5 := bt_at a0 x6_1
        replace p5 := eq_true p5
        replace q5 := eq_true q5
        have p7 : 0 ≤ (x6_1 : Int) := of_decide_eq_true (by assumption)
        have q7 : x6_1 < (a0.size : Int) := of_decide_eq_true (by assumption)
        have hx7 := bt_at a0 x6_1
        replace p7 := eq_true p7
        replace q7 := eq_true q7
        go_wp2
        go_ret
        exact ⟨by first | rfl | (simp; done) | (simp [*]; done), by repeat (first | exact Drawn0.refl _ | apply Drawn0.step)⟩
       ·
        rw [if_neg c8] at H
        have c8b0 : decide (126 < (bt a0 x6_1)) = false := decide_eq_false c8
        clear c8
        have H' := Aside0.mk H
        clear H
        have p5 : 0 ≤ (x6_1 : Int) := of_decide_eq_true (by assumption)
        have q5 : x6_1 < (a0.size : Int) := of_decide_eq_true (by assumption)
        have hx5 := bt_at a0 x6_1
        replace p5 := eq_true p5
        replace q5 := eq_true q5
        have p7 : 0 ≤ (x6_1 : Int) := of_decide_eq_true (by assumption)
        have q7 : x6_1 < (a0.size : Int) := of_decide_eq_true (by assumption)
        have hx7 := bt_at a0 x6_1
        replace p7 := eq_true p7
        replace q7 := eq_true q7
        go_wp2
        go_roundg k1
        case measure => have := HK1.out; omega
        case rel => exact ⟨(wrap64 (x6_1 + 1)), rs, H', ⟨by have := HK1.out; omega⟩, by repeat (first | exact Drawn0.refl _ | apply Drawn0.step)⟩
     ·
      rw [if_neg c4] at H
      exact absurd H (by simp)
    ·
     rw [if_neg c3] at H
     exact absurd H (by simp)
   ·
    rw [if_neg c2] at H
    have c2b0 : decide (x6_1 < (a0.size : Int)) = false := decide_eq_false c2
    clear c2
    obtain rfl := Option.some.inj H
    go_wp2
    go_ret
    exact ⟨by first | rfl | (simp; done) | (simp [*]; done), by repeat (first | exact Drawn0.refl _ | apply Drawn0.step)⟩

/-! ### strings_Trim: function 30 -/

def strings_Trim.f (a0 : ByteArray) (a1 : ByteArray) : Option (ByteArray) := if a1.data.toList = [32] then (if a0.size ≤ 9223372036854775807 then some ⟨(Lib.trimB a0.data.toList 32).toArray⟩ else none) else none
theorem strings_Trim.calls (a0 a1 : ByteArray) (r : ByteArray) (w : World) (h : strings_Trim.f a0 a1 = some r) :
  Calls Tryd.prog 30 #[.string a0, .string a1] w fun e w' => e = .returned (.string r) ∧ Drawn0 w w' := by
 unfold strings_Trim.f at h
 split at h
 ·
  rename_i h1
  split at h
  ·
   rename_i hs
   injection h with h
   subst h
   have e1 : a1 = ⟨#[32]⟩ := by
    cases a1 with
    | mk d => exact congrArg ByteArray.mk (Array.toList_inj.mp h1)
   subst e1
   refine (Tryd.strings_Trim_one a0 32 (by decide) w hs).mono ?_
   rintro e w' ⟨he, hw⟩
   refine ⟨he, ?_⟩
   rcases hw with rfl | rfl
   ·
    exact ⟨⟨0, rfl⟩⟩
   ·
    exact ⟨⟨1, rfl⟩⟩
  ·
   cases h
 ·
  cases h

/-! ### strings_Contains: function 31 -/

def strings_Contains.f (a0 : ByteArray) (a1 : ByteArray) : Option (Bool) := if a0.size < 4294967281 then some (Lib.contains a0.data.toList a1.data.toList) else none
theorem strings_Contains.calls (a0 a1 : ByteArray) (r : Bool) (w : World) (hg_ : MaxOk w) (h : strings_Contains.f a0 a1 = some r) :
  Calls Tryd.prog 31 #[.string a0, .string a1] w fun e w' => e = .returned (.bool r) ∧ Drawn0 w w' := by
 unfold strings_Contains.f at h
 split at h
 ·
  rename_i hs
  injection h with h
  subst h
  obtain ⟨m, hm⟩ := hg_
  refine (Tryd.strings_Contains a0 a1 m w hs hm).mono ?_
  rintro e w' ⟨he, rfl⟩
  exact ⟨he, ⟨⟨0, rfl⟩⟩⟩
 ·
  cases h

/-! ### impl_NeedsCode: function 16 -/
def impl_NeedsCode.f (k : Nat) (a0 : ByteArray) : Option (Bool) := (impl_TextValid.f k a0).bind fun t233 => (if t233 = true then ((strings_Trim.f a0 (⟨#[32]⟩ : ByteArray)).bind fun t234 => (if t234.toList = a0.toList then ((strings_Contains.f a0 (⟨#[61, 63]⟩ : ByteArray)).bind fun t235 => (if t235 = true then (some true) else (some (decide ((a0.size : Int) > 120))))) else (some true))) else (some true))
set_option maxHeartbeats 8000000 in
set_option maxRecDepth 100000 in
theorem impl_NeedsCode.calls (k : Nat) (a0 : ByteArray) (r : Bool) (w : World) (hg_ : MaxOk w) (h : impl_NeedsCode.f k a0 = some r) :
  Calls Tryd.prog 16 #[.string a0] w fun e w' => e = .returned (.bool r) ∧ Drawn0 w w' := by
 have HG := Aside0.mk hg_
 clear hg_
 have H : ((impl_TextValid.f k a0).bind fun t233 => (if t233 = true then ((strings_Trim.f a0 (⟨#[32]⟩ : ByteArray)).bind fun t234 => (if t234.toList = a0.toList then ((strings_Contains.f a0 (⟨#[61, 63]⟩ : ByteArray)).bind fun t235 => (if t235 = true then (some true) else (some (decide ((a0.size : Int) > 120))))) else (some true))) else (some true))) = some r := h
 clear h
 replace H := Option.bind_eq_some_iff.mp H
 obtain ⟨t233, A20, H⟩ := H
 replace H : (if t233 = true then ((strings_Trim.f a0 (⟨#[32]⟩ : ByteArray)).bind fun t234 => (if t234.toList = a0.toList then ((strings_Contains.f a0 (⟨#[61, 63]⟩ : ByteArray)).bind fun t235 => (if t235 = true then (some true) else (some (decide ((a0.size : Int) > 120))))) else (some true))) else (some true)) = some r := H
 have A2 := Aside0.mk A20
 clear A20
 by_cases c3 : t233 = true
 ·
  subst c3
  have H1 : ((strings_Trim.f a0 (⟨#[32]⟩ : ByteArray)).bind fun t234 => (if t234.toList = a0.toList then ((strings_Contains.f a0 (⟨#[61, 63]⟩ : ByteArray)).bind fun t235 => (if t235 = true then (some true) else (some (decide ((a0.size : Int) > 120))))) else (some true))) = some r := by rw [if_pos rfl] at H; exact H
  clear H
  have H := H1
  clear H1
  replace H := Option.bind_eq_some_iff.mp H
  obtain ⟨t234, A40, H⟩ := H
  replace H : (if t234.toList = a0.toList then ((strings_Contains.f a0 (⟨#[61, 63]⟩ : ByteArray)).bind fun t235 => (if t235 = true then (some true) else (some (decide ((a0.size : Int) > 120))))) else (some true)) = some r := H
  have A4 := Aside0.mk A40
  clear A40
  by_cases c5 : t234.toList = a0.toList
  ·
   rw [if_pos c5] at H
   have c5b0 : (t234.toList == a0.toList) = true := beq_iff_eq.mpr c5
   have c5b1 : (t234.toList != a0.toList) = false := bne_eq_false_iff_eq.mpr c5
   clear c5
   replace H := Option.bind_eq_some_iff.mp H
   obtain ⟨t235, A60, H⟩ := H
   replace H : (if t235 = true then (some true) else (some (decide ((a0.size : Int) > 120)))) = some r := H
   have A6 := Aside0.mk A60
   clear A60
   by_cases c7 : t235 = true
   ·
    subst c7
    have H1 : (some true) = some r := by rw [if_pos rfl] at H; exact H
    clear H
    have H := H1
    clear H1
    obtain rfl := Option.some.inj H
    go_enter Tryd.func16, Tryd.ntmps16
    go_wp2_with (first | ((with_reducible refine gate_callee (f := 29) rfl ?_); refine goesL_ (some 4) rfl rfl Tryd.func29 (by kernel_rfl) rfl #[.string a0] rfl ma ?_; (with_reducible refine (impl_TextValid.calls k a0 true _ A2.out).mono ?_); rintro e w' ⟨rfl, ⟨nd, rfl⟩⟩; refine ⟨_, rfl, ?_⟩) | (go_at_call 30; (with_reducible refine (strings_Trim.calls a0 (⟨#[32]⟩ : ByteArray) t234 _ A4.out).mono ?_); rintro e w' ⟨rfl, ⟨nd, rfl⟩⟩) | (go_at_call 31; (with_reducible refine (strings_Contains.calls a0 (⟨#[61, 63]⟩ : ByteArray) true _ ?side1 A6.out).mono ?_); (case side1 => first | exact HG.out | exact MaxOk.below HG.out (ul HB.out) | (repeat (first | exact HG.out | apply MaxOk.drewN | apply MaxOk.drew))); rintro e w' ⟨rfl, ⟨nd, rfl⟩⟩))
    go_ret
    exact ⟨by first | rfl | (simp; done) | (simp [*]; done), by repeat (first | exact Drawn0.refl _ | apply Drawn0.step)⟩
   ·
    replace c7 := Bool.eq_false_iff.mpr c7
    subst c7
    have H1 : (some (decide ((a0.size : Int) > 120))) = some r := by rw [if_neg (show ¬ (false = true) by decide)] at H; exact H
    clear H
    have H := H1
    clear H1
    obtain rfl := Option.some.inj H
    go_enter Tryd.func16, Tryd.ntmps16
    go_wp2_with (first | ((with_reducible refine gate_callee (f := 29) rfl ?_); refine goesL_ (some 4) rfl rfl Tryd.func29 (by kernel_rfl) rfl #[.string a0] rfl ma ?_; (with_reducible refine (impl_TextValid.calls k a0 true _ A2.out).mono ?_); rintro e w' ⟨rfl, ⟨nd, rfl⟩⟩; refine ⟨_, rfl, ?_⟩) | (go_at_call 30; (with_reducible refine (strings_Trim.calls a0 (⟨#[32]⟩ : ByteArray) t234 _ A4.out).mono ?_); rintro e w' ⟨rfl, ⟨nd, rfl⟩⟩) | (go_at_call 31; (with_reducible refine (strings_Contains.calls a0 (⟨#[61, 63]⟩ : ByteArray) false _ ?side1 A6.out).mono ?_); (case side1 => first | exact HG.out | exact MaxOk.below HG.out (ul HB.out) | (repeat (first | exact HG.out | apply MaxOk.drewN | apply MaxOk.drew))); rintro e w' ⟨rfl, ⟨nd, rfl⟩⟩))
    go_ret
    exact ⟨by first | rfl | (simp; done) | (simp [*]; done), by repeat (first | exact Drawn0.refl _ | apply Drawn0.step)⟩
  ·
   rw [if_neg c5] at H
   have c5b0 : (t234.toList == a0.toList) = false := beq_eq_false_iff_ne.mpr c5
   have c5b1 : (t234.toList != a0.toList) = true := bne_iff_ne.mpr c5
   obtain rfl := Option.some.inj H
   go_enter Tryd.func16, Tryd.ntmps16
   go_wp2_with (first | ((with_reducible refine gate_callee (f := 29) rfl ?_); refine goesL_ (some 4) rfl rfl Tryd.func29 (by kernel_rfl) rfl #[.string a0] rfl ma ?_; (with_reducible refine (impl_TextValid.calls k a0 true _ A2.out).mono ?_); rintro e w' ⟨rfl, ⟨nd, rfl⟩⟩; refine ⟨_, rfl, ?_⟩) | (go_at_call 30; (with_reducible refine (strings_Trim.calls a0 (⟨#[32]⟩ : ByteArray) t234 _ A4.out).mono ?_); rintro e w' ⟨rfl, ⟨nd, rfl⟩⟩))
   go_ret
   exact ⟨by first | rfl | (simp; done) | (simp [*]; done), by repeat (first | exact Drawn0.refl _ | apply Drawn0.step)⟩
 ·
  replace c3 := Bool.eq_false_iff.mpr c3
  subst c3
  have H1 : (some true) = some r := by rw [if_neg (show ¬ (false = true) by decide)] at H; exact H
  clear H
  have H := H1
  clear H1
  obtain rfl := Option.some.inj H
  go_enter Tryd.func16, Tryd.ntmps16
  go_wp2_with (first | ((with_reducible refine gate_callee (f := 29) rfl ?_); refine goesL_ (some 4) rfl rfl Tryd.func29 (by kernel_rfl) rfl #[.string a0] rfl ma ?_; (with_reducible refine (impl_TextValid.calls k a0 false _ A2.out).mono ?_); rintro e w' ⟨rfl, ⟨nd, rfl⟩⟩; refine ⟨_, rfl, ?_⟩))
  go_ret
  exact ⟨by first | rfl | (simp; done) | (simp [*]; done), by repeat (first | exact Drawn0.refl _ | apply Drawn0.step)⟩

/-! ### strings_Join: function 18 -/

def strings_Join.f (l0 : List ByteArray) (a1 : ByteArray) : Option (ByteArray) := if l0.length ≤ 140737488355328 then (if (Lib.join (l0.map (·.data.toList)) a1.data.toList).length ≤ 140737488355328 then some ⟨(Lib.join (l0.map (·.data.toList)) a1.data.toList).toArray⟩ else none) else none
theorem strings_Join.calls (A0 : Option Addr) (c0 : Nat) (l0 : List ByteArray) (a1 : ByteArray) (r : ByteArray) (w : World) (hr0 : Kd.C Kd.string w A0 l0.length l0) (hc0 : l0.length ≤ c0) (h : strings_Join.f l0 a1 = some r) :
  Calls Tryd.prog 18 #[.slice A0 l0.length c0, .string a1] w fun e w' => e = .returned (.string r) ∧ Below w.heap.size w w' := by
 unfold strings_Join.f at h
 split at h
 ·
  rename_i hN
  split at h
  ·
   rename_i hlen
   injection h with h
   subst h
   cases l0 with
   | nil => exact (Tryd.strings_Join_none A0 c0 a1 w).mono fun e w' ⟨he, hw⟩ => ⟨he, hw ▸ Below.refl _ _⟩
   | cons x l =>
    obtain ⟨_, _, hC⟩ := hr0
    obtain ⟨ad, rfl, hcell⟩ := hC (by simp)
    have hat : ∀ (j : Nat) y, (x :: l)[j]? = some y → w.cell? (ad.add j) = some (.string y) := by
     intro j y hj
     obtain ⟨cs, hl, hk, hc⟩ := hcell j y hj
     have hk2 : cs = [Value.string y] := by first | exact hk | exact hl
     subst hk2
     have := hc 0 (.string y) rfl
     rw [show ad.add (j * Kd.string.sz + 0) = ad.add j from congrArg ad.add (Nat.mul_one j)] at this
     exact this
    have h0 := hat 0 x rfl
    obtain ⟨bk, o, sp⟩ := ad
    have hsp : sp = none := by
     cases sp with
     | none => rfl
     | some q =>
      unfold World.cell? at h0
      simp only [add_block] at h0
      cases hh : w.heap[bk]? with
      | none => rw [hh] at h0; cases h0
      | some b =>
       rw [hh] at h0
       cases b <;> simp [Addr.add] at h0
    subst hsp
    have hlt := World.block_lt_of_cell? _ _ h0
    refine Tryd.strings_Join bk o c0 (x :: l) a1 w (fun j y hj => ?_) (by simpa [add_block] using hlt) hN hc0 hlen
    have := hat j y hj
    rw [show Addr.add ⟨bk, o, none⟩ j = ⟨bk, o + j, none⟩ from by
     unfold Addr.add
     split
     ·
      rename_i h0; subst h0; rfl
     ·
      rfl] at this
    exact this
  ·
   cases h
 ·
  cases h

end Go.Proofs.YtncdadcmghglkaaDoor.PFnDecodeName
