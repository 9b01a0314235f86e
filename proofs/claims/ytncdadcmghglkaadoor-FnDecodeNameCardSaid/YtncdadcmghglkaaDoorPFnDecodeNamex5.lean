/- Written by a program of this session out of the translation: each Go function named below as a Lean function, and the proof that the call answers as that function does; conditions: those in each statement. -/
import Derived.Test.YtncdadcmghglkaaDoorVFnDecodeNameYt
import Derived.Test.YtncdadcmghglkaaDoorPFnDecodeNamex0
import Derived.Test.YtncdadcmghglkaaDoorPFnDecodeNamex3
import Derived.Test.YtncdadcmghglkaaDoorPFnDecodeNamex4
-- short
-- dense
namespace Go.Proofs.YtncdadcmghglkaaDoor.PFnDecodeName
open Go.RowKit Go.Proofs.YtncdadcmghglkaaDoor.X Go.Proofs.YtncdadcmghglkaaDoorW.PrintWords Go.Proofs.YtncdadcmghglkaaDoorW.PrintLast Go.Proofs.YtncdadcmghglkaaDoorW.PrintMore
attribute [local go_sem] max2_int min2_int max_two min_two max_three min_three max_four min_four   -- for this text's walks alone
set_option linter.unusedVariables false
set_option linter.unusedSimpArgs false

/-! ### impl_DecodeName: function 5 -/
mutual
def impl_DecodeName.l0 : Nat → ByteArray → Bool → List ByteArray → Int → Int → Option (ByteArray × Bool)
 | 0, _, _, _, _, _ => none
 | k + 1, x4, x5, x14, x15, x16 => if x16 < x15 then (if 0 ≤ x16 then (if x16 < (x14.length : Int) then ((impl_ReadCodeWord.f k (rdOf ByteArray.empty x14 x16)).bind fun bt195 => (if x16 > 0 then (if x5 = true then (impl_DecodeName.j1 k x4 (rdOf ByteArray.empty x14 x16) bt195.1 bt195.2 x14 x15 x16 (!bt195.2)) else (impl_DecodeName.j1 k x4 (rdOf ByteArray.empty x14 x16) bt195.1 bt195.2 x14 x15 x16 (!false))) else (impl_DecodeName.j1 k x4 (rdOf ByteArray.empty x14 x16) bt195.1 bt195.2 x14 x15 x16 false))) else (none)) else (none)) else (if (x4.size : Int) > 120 then (some ((⟨#[]⟩ : ByteArray), false)) else (some (x4, true)))
def impl_DecodeName.j1 : Nat → ByteArray → ByteArray → ByteArray → Bool → List ByteArray → Int → Int → Bool → Option (ByteArray × Bool)
 | 0, _, _, _, _, _, _, _, _ => none
 | k + 1, x4, x7, x8, x9, x14, x15, x16, x34 => if x34 = true then (if x4.size + 1 ≤ 9223372036854775807 then (if x9 = true then (if (x4 ++ (⟨#[32]⟩ : ByteArray)).size + x8.size ≤ 9223372036854775807 then (impl_DecodeName.l0 k ((x4 ++ (⟨#[32]⟩ : ByteArray)) ++ x8) x9 x14 x15 (wrap64 (x16 + 1))) else (none)) else (if (x4 ++ (⟨#[32]⟩ : ByteArray)).size + x7.size ≤ 9223372036854775807 then (impl_DecodeName.l0 k ((x4 ++ (⟨#[32]⟩ : ByteArray)) ++ x7) x9 x14 x15 (wrap64 (x16 + 1))) else (none))) else (none)) else (if x9 = true then (if x4.size + x8.size ≤ 9223372036854775807 then (impl_DecodeName.l0 k (x4 ++ x8) x9 x14 x15 (wrap64 (x16 + 1))) else (none)) else (if x4.size + x7.size ≤ 9223372036854775807 then (impl_DecodeName.l0 k (x4 ++ x7) x9 x14 x15 (wrap64 (x16 + 1))) else (none)))
end
def impl_DecodeName.f (k : Nat) (a0 : ByteArray) : Option (ByteArray × Bool) := if (a0.size : Int) > 600 then (some ((⟨#[]⟩ : ByteArray), false)) else ((strings_Split.f a0 (⟨#[32]⟩ : ByteArray)).bind fun t191 => (impl_DecodeName.l0 k (⟨#[]⟩ : ByteArray) false t191 (t191.length : Int) 0))
set_option maxHeartbeats 8000000 in
set_option maxRecDepth 100000 in
theorem impl_DecodeName.calls (k : Nat) (a0 : ByteArray) (r1 : ByteArray) (r2 : Bool) (w : World) (hg_ : MaxOk w) (h : impl_DecodeName.f k a0 = some (r1, r2)) :
  Calls Tryd.prog 5 #[.string a0] w fun e w' => e = .returned (.tuple #[.string r1, .bool r2]) ∧ Below w.heap.size w w' := by
 have HG := Aside0.mk hg_
 clear hg_
 have HB := Aside0.mk (Below.refl w.heap.size w)
 have H : (if (a0.size : Int) > 600 then (some ((⟨#[]⟩ : ByteArray), false)) else ((strings_Split.f a0 (⟨#[32]⟩ : ByteArray)).bind fun t191 => (impl_DecodeName.l0 k (⟨#[]⟩ : ByteArray) false t191 (t191.length : Int) 0))) = some (r1, r2) := h
 clear h
 by_cases c2 : (a0.size : Int) > 600
 ·
  rw [if_pos c2] at H
  have c2b0 : decide (600 < (a0.size : Int)) = true := decide_eq_true c2
  have c2b1 : decide (600 < a0.size) = true := decide_eq_true (by omega)
  clear c2
  simp only [Option.some.injEq, Prod.mk.injEq] at H
  obtain ⟨rfl, rfl⟩ := H
  go_enter Tryd.func5, Tryd.ntmps5
  go_wp2
  go_ret2
  exact ⟨er, ul HB.out⟩
 ·
  rw [if_neg c2] at H
  have c2b0 : decide (600 < (a0.size : Int)) = false := decide_eq_false c2
  have c2b1 : decide (600 < a0.size) = false := decide_eq_false (by omega)
  clear c2
  replace H := Option.bind_eq_some_iff.mp H
  obtain ⟨t191, A30, H⟩ := H
  replace H : (impl_DecodeName.l0 k (⟨#[]⟩ : ByteArray) false t191 (t191.length : Int) 0) = some (r1, r2) := H
  have A3 := Aside0.mk A30
  clear A30
  have H' := Aside0.mk H
  clear H
  go_enter Tryd.func5, Tryd.ntmps5
  go_wp2_with (first | ((with_reducible refine gate_callee (f := 12) rfl ?_); refine goesL_ (some 14) rfl rfl Tryd.func12 (by kernel_rfl) rfl #[.string a0, .string (⟨#[32]⟩ : ByteArray)] rfl ma ?_; (with_reducible refine (strings_Split.calls a0 (⟨#[32]⟩ : ByteArray) t191 _ ?side1 A3.out).mono ?_); (case side1 => first | exact HG.out | exact MaxOk.below HG.out (ul HB.out) | (repeat (first | exact HG.out | apply MaxOk.drewN | apply MaxOk.drew))); rintro e w4 ⟨v192, rfl, ho0, hb⟩; refine ⟨_, rfl, ?_⟩; have n0_ := Aside0.mk (Kd.R_lower ho0 (below_size (ul HB.out))); have n1_ := Aside0.mk (below_step (ul HB.out) hb); clear HB; have HO193 := n0_; have HB := n1_; clear n0_ n1_; (try clear hb); (try clear hb2); (try clear hk); (try clear hi); (try clear ho0); obtain ⟨Ao5, co5, eo5⟩ := Kd.R_slice HO193.out; subst eo5))
  go_loopg [4, 5, 16] k (fun kq v4 v5 v16 w' => ∃ (x4_1 : ByteArray) (x5_1 : Bool) (x16_1 : Int), v4 = .string x4_1 ∧ v5 = .bool x5_1 ∧ v16 = .int .i64 x16_1 ∧ Aside0 (impl_DecodeName.l0 kq x4_1 x5_1 t191 (t191.length : Int) x16_1 = some (r1, r2)) ∧ Aside0 (kq ≤ k) ∧ Aside0 (Kd.R Kd.string 9 w' w.heap.size (fun _ => True) (.slice Ao5 t191.length co5) t191) ∧ Aside0 (Below w.heap.size w w'))
  case atStart => exact ⟨((⟨#[]⟩ : ByteArray)), (false), (0), rs, rs, rs, H', ⟨Nat.le_refl _⟩, ⟨ur HO193.out⟩, ⟨ul HB.out⟩⟩
  case round =>
   clear H'
   try clear c1
   try clear c2
   try clear c2b0
   try clear c2b1
   try clear p2
   try clear c5
   obtain ⟨x4_1, x5_1, x16_1, rfl, rfl, rfl, HA, HK1, HO_14, HB⟩ := hrel
   cases gk with
   | zero => exact absurd HA.out (by simp [impl_DecodeName.l0])
   | succ k1 =>
    have H := HA.out
    clear HA
    simp only [impl_DecodeName.l0] at H
    by_cases c6 : x16_1 < (t191.length : Int)
    ·
     rw [if_pos c6] at H
     have c6b0 : decide (x16_1 < (t191.length : Int)) = true := decide_eq_true c6
     clear c6
     by_cases c7 : 0 ≤ x16_1
     ·
      rw [if_pos c7] at H
      have c7b0 : decide (0 ≤ x16_1) = true := decide_eq_true c7
      clear c7
      by_cases c8 : x16_1 < (t191.length : Int)
      ·
       rw [if_pos c8] at H
       have c8b0 : decide (x16_1 < (t191.length : Int)) = true := decide_eq_true c8
       clear c8
       replace H := Option.bind_eq_some_iff.mp H
       obtain ⟨⟨t195, t196⟩, A90, H⟩ := H
       replace H : (if x16_1 > 0 then (if x5_1 = true then (impl_DecodeName.j1 k1 x4_1 (rdOf ByteArray.empty t191 x16_1) t195 t196 t191 (t191.length : Int) x16_1 (!t196)) else (impl_DecodeName.j1 k1 x4_1 (rdOf ByteArray.empty t191 x16_1) t195 t196 t191 (t191.length : Int) x16_1 (!false))) else (impl_DecodeName.j1 k1 x4_1 (rdOf ByteArray.empty t191 x16_1) t195 t196 t191 (t191.length : Int) x16_1 false)) = some (r1, r2) := H
       have A9 := Aside0.mk A90
       clear A90
       have HC10 := Aside0.mk H
       clear H
       have p194 : 0 ≤ (x16_1 : Int) := of_decide_eq_true (by assumption)
       have q194 : x16_1 < (t191.length : Int) := of_decide_eq_true (by assumption)
       obtain ⟨ad194, e194, hx194_0⟩ := Kd.at_string (Kd.R_reads' HO_14.out).2.2 x16_1 p194 q194
       cases e194
       replace p194 := eq_true p194
       replace q194 := eq_true q194
       go_upto_region 8 with (first | ((with_reducible refine gate_callee (f := 13) rfl ?_); refine goesL_ (some 23) rfl rfl Tryd.func13 (by kernel_rfl) rfl #[.string (rdOf ByteArray.empty t191 x16_1)] rfl ma ?_; (with_reducible refine (impl_ReadCodeWord.calls k1 (rdOf ByteArray.empty t191 x16_1) t195 t196 _ A9.out).mono ?_); rintro e w11 ⟨rfl, hb⟩; refine ⟨_, rfl, ?_⟩; have n0_ := Aside0.mk (Kd.R_below (ur HO_14.out) hb); have n1_ := Aside0.mk (below_step (ul HB.out) hb); clear HO_14; clear HB; have HO_14 := n0_; have HB := n1_; clear n0_ n1_; (try clear hb); (try clear hb2); (try clear hk); (try clear hi)))
       (try simp only [Act.put, List.setIfInBounds_toArray, List.set_cons_zero, List.set_cons_succ])
       go_cut [34] (fun v34 wc => ∃ (kq : Nat) (x34_9 : Bool), v34 = .bool x34_9 ∧ Aside0 (impl_DecodeName.j1 kq x4_1 (rdOf ByteArray.empty t191 x16_1) t195 t196 t191 (t191.length : Int) x16_1 x34_9 = some (r1, r2)) ∧ Aside0 (kq ≤ k1) ∧ Aside0 (Kd.R Kd.string 9 wc w.heap.size (fun _ => True) (.slice (some ad194) t191.length co5) t191) ∧ Aside0 (Below w.heap.size w wc))
       case first =>
        have H := HC10.out
        clear HC10
        by_cases c12 : x16_1 > 0
        ·
         rw [if_pos c12] at H
         have c12b0 : decide (0 < x16_1) = true := decide_eq_true c12
         clear c12
         (first | rw [c12b0] | (simp only [i64_w, i32_w]; rw [c12b0]) | skip)
         by_cases c13 : x5_1 = true
         ·
          subst c13
          have H1 : (impl_DecodeName.j1 k1 x4_1 (rdOf ByteArray.empty t191 x16_1) t195 t196 t191 (t191.length : Int) x16_1 (!t196)) = some (r1, r2) := by rw [if_pos rfl] at H; exact H
          clear H
          have H := H1
          clear H1
          have H' := Aside0.mk H
          clear H
          go_wp2
          go_meet
          case rel => exact ⟨_, (!t196), rs, H', ⟨by have := HK1.out; first | omega | exact Nat.le_refl _⟩, ⟨ur HO_14.out⟩, ⟨ul HB.out⟩⟩
         ·
          replace c13 := Bool.eq_false_iff.mpr c13
          subst c13
          have H1 : (impl_DecodeName.j1 k1 x4_1 (rdOf ByteArray.empty t191 x16_1) t195 t196 t191 (t191.length : Int) x16_1 (!false)) = some (r1, r2) := by rw [if_neg (show ¬ (false = true) by decide)] at H; exact H
          clear H
          have H := H1
          clear H1
          have H' := Aside0.mk H
          clear H
          go_wp2
          go_meet
          case rel => exact ⟨_, (!false), rs, H', ⟨by have := HK1.out; first | omega | exact Nat.le_refl _⟩, ⟨ur HO_14.out⟩, ⟨ul HB.out⟩⟩
        ·
         rw [if_neg c12] at H
         have c12b0 : decide (0 < x16_1) = false := decide_eq_false c12
         clear c12
         (first | rw [c12b0] | (simp only [i64_w, i32_w]; rw [c12b0]) | skip)
         have H' := Aside0.mk H
         clear H
         go_wp2
         go_meet
         case rel => exact ⟨_, (false), rs, H', ⟨by have := HK1.out; first | omega | exact Nat.le_refl _⟩, ⟨ur HO_14.out⟩, ⟨ul HB.out⟩⟩
       case rest =>
        clear HC10
        try clear c1
        try clear p1
        try clear q1
        try clear hx1
        try clear c2
        try clear c2b0
        try clear c2b1
        try clear p2
        try clear c5
        try clear c6
        try clear c6b0
        try clear c7
        try clear c7b0
        try clear c8
        try clear c8b0
        try clear c12
        try clear c12b0
        try clear c13
        try clear hx194_0
        try clear p194
        try clear p2
        try clear q194
        obtain ⟨kq, x34_9, rfl, HA, HJ9, HO_14, HB⟩ := hcut
        cases kq with
        | zero => exact absurd HA.out (by simp [impl_DecodeName.j1])
        | succ kj9 =>
         have H := HA.out
         clear HA
         simp only [impl_DecodeName.j1] at H
         by_cases c14 : x34_9 = true
         ·
          subst c14
          have H1 : (if x4_1.size + 1 ≤ 9223372036854775807 then (if t196 = true then (if (x4_1 ++ (⟨#[32]⟩ : ByteArray)).size + t195.size ≤ 9223372036854775807 then (impl_DecodeName.l0 kj9 ((x4_1 ++ (⟨#[32]⟩ : ByteArray)) ++ t195) t196 t191 (t191.length : Int) (wrap64 (x16_1 + 1))) else (none)) else (if (x4_1 ++ (⟨#[32]⟩ : ByteArray)).size + (rdOf ByteArray.empty t191 x16_1).size ≤ 9223372036854775807 then (impl_DecodeName.l0 kj9 ((x4_1 ++ (⟨#[32]⟩ : ByteArray)) ++ (rdOf ByteArray.empty t191 x16_1)) t196 t191 (t191.length : Int) (wrap64 (x16_1 + 1))) else (none))) else (none)) = some (r1, r2) := by rw [if_pos rfl] at H; exact H
          clear H
          have H := H1
          clear H1
          by_cases c15 : x4_1.size + 1 ≤ 9223372036854775807
          ·
           rw [if_pos c15] at H
           have c15b0 := eq_true c15
           have c15b1 : decide (x4_1.size + 1 ≤ 9223372036854775807) = true := decide_eq_true c15
           try have c15b2 : (9223372036854775807 < x4_1.size + 1) = False := eq_false (Nat.not_lt.2 c15)
           by_cases c16 : t196 = true
           ·
            subst c16
            have H1 : (if (x4_1 ++ (⟨#[32]⟩ : ByteArray)).size + t195.size ≤ 9223372036854775807 then (impl_DecodeName.l0 kj9 ((x4_1 ++ (⟨#[32]⟩ : ByteArray)) ++ t195) true t191 (t191.length : Int) (wrap64 (x16_1 + 1))) else (none)) = some (r1, r2) := by rw [if_pos rfl] at H; exact H
            clear H
            have H := H1
            clear H1
            by_cases c17 : (x4_1 ++ (⟨#[32]⟩ : ByteArray)).size + t195.size ≤ 9223372036854775807
            ·
             rw [if_pos c17] at H
             have c17b0 := eq_true c17
             have c17b1 : decide ((x4_1 ++ (⟨#[32]⟩ : ByteArray)).size + t195.size ≤ 9223372036854775807) = true := decide_eq_true c17
             try have c17b3 : (9223372036854775807 < x4_1.size + 1 + t195.size) = False := by have h_ := (eq_false (Nat.not_lt.2 c17) : (9223372036854775807 < (x4_1 ++ (⟨#[32]⟩ : ByteArray)).size + t195.size) = False); simp only [ByteArray.size_append] at h_; exact h_
             try have c17b2 : (9223372036854775807 < (x4_1 ++ (⟨#[32]⟩ : ByteArray)).size + t195.size) = False := eq_false (Nat.not_lt.2 c17)
             have H' := Aside0.mk H
             clear H
             go_wp2
             go_roundg kj9
             case measure => have := HK1.out; have := HJ9.out; omega
             case rel => exact ⟨((x4_1 ++ (⟨#[32]⟩ : ByteArray)) ++ t195), (true), (wrap64 (x16_1 + 1)), rs, rs, rs, H', ⟨by have := HK1.out; have := HJ9.out; omega⟩, ⟨ur HO_14.out⟩, ⟨ul HB.out⟩⟩
            ·
             rw [if_neg c17] at H
             exact absurd H (by simp)
           ·
            replace c16 := Bool.eq_false_iff.mpr c16
            subst c16
            have H1 : (if (x4_1 ++ (⟨#[32]⟩ : ByteArray)).size + (rdOf ByteArray.empty t191 x16_1).size ≤ 9223372036854775807 then (impl_DecodeName.l0 kj9 ((x4_1 ++ (⟨#[32]⟩ : ByteArray)) ++ (rdOf ByteArray.empty t191 x16_1)) false t191 (t191.length : Int) (wrap64 (x16_1 + 1))) else (none)) = some (r1, r2) := by rw [if_neg (show ¬ (false = true) by decide)] at H; exact H
            clear H
            have H := H1
            clear H1
            by_cases c18 : (x4_1 ++ (⟨#[32]⟩ : ByteArray)).size + (rdOf ByteArray.empty t191 x16_1).size ≤ 9223372036854775807
            ·
             rw [if_pos c18] at H
             have c18b0 := eq_true c18
             have c18b1 : decide ((x4_1 ++ (⟨#[32]⟩ : ByteArray)).size + (rdOf ByteArray.empty t191 x16_1).size ≤ 9223372036854775807) = true := decide_eq_true c18
             try have c18b3 : (9223372036854775807 < x4_1.size + 1 + (rdOf ByteArray.empty t191 x16_1).size) = False := by have h_ := (eq_false (Nat.not_lt.2 c18) : (9223372036854775807 < (x4_1 ++ (⟨#[32]⟩ : ByteArray)).size + (rdOf ByteArray.empty t191 x16_1).size) = False); simp only [ByteArray.size_append] at h_; exact h_
             try have c18b2 : (9223372036854775807 < (x4_1 ++ (⟨#[32]⟩ : ByteArray)).size + (rdOf ByteArray.empty t191 x16_1).size) = False := eq_false (Nat.not_lt.2 c18)
             have H' := Aside0.mk H
             clear H
             go_wp2
             go_roundg kj9
             case measure => have := HK1.out; have := HJ9.out; omega
             case rel => exact ⟨((x4_1 ++ (⟨#[32]⟩ : ByteArray)) ++ (rdOf ByteArray.empty t191 x16_1)), (false), (wrap64 (x16_1 + 1)), rs, rs, rs, H', ⟨by have := HK1.out; have := HJ9.out; omega⟩, ⟨ur HO_14.out⟩, ⟨ul HB.out⟩⟩
            ·
             rw [if_neg c18] at H
             exact absurd H (by simp)
          ·
           rw [if_neg c15] at H
           exact absurd H (by simp)
         ·
          replace c14 := Bool.eq_false_iff.mpr c14
          subst c14
          have H1 : (if t196 = true then (if x4_1.size + t195.size ≤ 9223372036854775807 then (impl_DecodeName.l0 kj9 (x4_1 ++ t195) t196 t191 (t191.length : Int) (wrap64 (x16_1 + 1))) else (none)) else (if x4_1.size + (rdOf ByteArray.empty t191 x16_1).size ≤ 9223372036854775807 then (impl_DecodeName.l0 kj9 (x4_1 ++ (rdOf ByteArray.empty t191 x16_1)) t196 t191 (t191.length : Int) (wrap64 (x16_1 + 1))) else (none))) = some (r1, r2) := by rw [if_neg (show ¬ (false = true) by decide)] at H; exact H
          clear H
          have H := H1
          clear H1
          by_cases c19 : t196 = true
          ·
           subst c19
           have H1 : (if x4_1.size + t195.size ≤ 9223372036854775807 then (impl_DecodeName.l0 kj9 (x4_1 ++ t195) true t191 (t191.length : Int) (wrap64 (x16_1 + 1))) else (none)) = some (r1, r2) := by rw [if_pos rfl] at H; exact H
           clear H
           have H := H1
           clear H1
           by_cases c20 : x4_1.size + t195.size ≤ 9223372036854775807
           ·
            rw [if_pos c20] at H
            have c20b0 := eq_true c20
            have c20b1 : decide (x4_1.size + t195.size ≤ 9223372036854775807) = true := decide_eq_true c20
            try have c20b2 : (9223372036854775807 < x4_1.size + t195.size) = False := eq_false (Nat.not_lt.2 c20)
            have H' := Aside0.mk H
            clear H
            go_wp2
            go_roundg kj9
            case measure => have := HK1.out; have := HJ9.out; omega
            case rel => exact ⟨(x4_1 ++ t195), (true), (wrap64 (x16_1 + 1)), rs, rs, rs, H', ⟨by have := HK1.out; have := HJ9.out; omega⟩, ⟨ur HO_14.out⟩, ⟨ul HB.out⟩⟩
           ·
            rw [if_neg c20] at H
            exact absurd H (by simp)
          ·
           replace c19 := Bool.eq_false_iff.mpr c19
           subst c19
           have H1 : (if x4_1.size + (rdOf ByteArray.empty t191 x16_1).size ≤ 9223372036854775807 then (impl_DecodeName.l0 kj9 (x4_1 ++ (rdOf ByteArray.empty t191 x16_1)) false t191 (t191.length : Int) (wrap64 (x16_1 + 1))) else (none)) = some (r1, r2) := by rw [if_neg (show ¬ (false = true) by decide)] at H; exact H
           clear H
           have H := H1
           clear H1
           by_cases c21 : x4_1.size + (rdOf ByteArray.empty t191 x16_1).size ≤ 9223372036854775807
           ·
            rw [if_pos c21] at H
            have c21b0 := eq_true c21
            have c21b1 : decide (x4_1.size + (rdOf ByteArray.empty t191 x16_1).size ≤ 9223372036854775807) = true := decide_eq_true c21
            try have c21b2 : (9223372036854775807 < x4_1.size + (rdOf ByteArray.empty t191 x16_1).size) = False := eq_false (Nat.not_lt.2 c21)
            have H' := Aside0.mk H
            clear H
            go_wp2
            go_roundg kj9
            case measure => have := HK1.out; have := HJ9.out; omega
            case rel => exact ⟨(x4_1 ++ (rdOf ByteArray.empty t191 x16_1)), (false), (wrap64 (x16_1 + 1)), rs, rs, rs, H', ⟨by have := HK1.out; have := HJ9.out; omega⟩, ⟨ur HO_14.out⟩, ⟨ul HB.out⟩⟩
           ·
            rw [if_neg c21] at H
            exact absurd H (by simp)
      ·
       rw [if_neg c8] at H
       exact absurd H (by simp)
     ·
      rw [if_neg c7] at H
      exact absurd H (by simp)
    ·
     rw [if_neg c6] at H
     have c6b0 : decide (x16_1 < (t191.length : Int)) = false := decide_eq_false c6
     clear c6
     by_cases c22 : (x4_1.size : Int) > 120
     ·
      rw [if_pos c22] at H
      have c22b0 : decide (120 < (x4_1.size : Int)) = true := decide_eq_true c22
      have c22b1 : decide (120 < x4_1.size) = true := decide_eq_true (by omega)
      clear c22
      simp only [Option.some.injEq, Prod.mk.injEq] at H
      obtain ⟨rfl, rfl⟩ := H
      go_wp2
      go_ret2
      exact ⟨er, ul HB.out⟩
     ·
      rw [if_neg c22] at H
      have c22b0 : decide (120 < (x4_1.size : Int)) = false := decide_eq_false c22
      have c22b1 : decide (120 < x4_1.size) = false := decide_eq_false (by omega)
      clear c22
      simp only [Option.some.injEq, Prod.mk.injEq] at H
      obtain ⟨rfl, rfl⟩ := H
      go_wp2
      go_ret2
      exact ⟨er, ul HB.out⟩

/-! ### spec_l2Parts: function 14 -/
def spec_l2Parts.l0 : Nat → ByteArray → Int → List ByteArray → Int → Int → Option (List ByteArray)
 | 0, _, _, _, _, _ => none
 | k + 1, x0, x1, x5, x6, x7 => if x7 < (x0.size : Int) then (if 0 ≤ x7 then (if (bt x0 x7) = x1 then (if 0 ≤ x6 then (if x6 ≤ x7 then (if x7 ≤ (x0.size : Int) then (if x5.length < 8796093022208 then (spec_l2Parts.l0 k x0 x1 (x5 ++ [x0.extract (x6 : Int).toNat (x7 : Int).toNat]) (wrap64 (x7 + 1)) (wrap64 (x7 + 1))) else (none)) else (none)) else (none)) else (none)) else (spec_l2Parts.l0 k x0 x1 x5 x6 (wrap64 (x7 + 1)))) else (none)) else (if 0 ≤ x6 then (if x6 ≤ (x0.size : Int) then (if x5.length < 8796093022208 then (some (x5 ++ [x0.extract (x6 : Int).toNat x0.size])) else (none)) else (none)) else (none))
def spec_l2Parts.f (k : Nat) (a0 : ByteArray) (a1 : Int) : Option (List ByteArray) := spec_l2Parts.l0 k a0 a1 (([] : List ByteArray)) 0 0
set_option maxHeartbeats 8000000 in
set_option maxRecDepth 100000 in
theorem spec_l2Parts.calls (k : Nat) (a0 : ByteArray) (a1 : Int) (r : List ByteArray) (w : World) (h : spec_l2Parts.f k a0 a1 = some r) :
  Calls Tryd.prog 14 #[.string a0, .int .u8 a1] w fun e w' => ∃ v0_ : Value, e = .returned (v0_) ∧ Kd.R Kd.string 9 w' w.heap.size (fun _ => True) v0_ r ∧ Below w.heap.size w w' := by
 have HB := Aside0.mk (Below.refl w.heap.size w)
 have H : (spec_l2Parts.l0 k a0 a1 (([] : List ByteArray)) 0 0) = some r := h
 clear h
 obtain ⟨y197, hy197⟩ : ∃ y_ : List ByteArray, y_ = (([] : List ByteArray)) := ⟨_, rfl⟩
 replace H : (spec_l2Parts.l0 k a0 a1 y197 0 0) = some r := by first | (rw [hy197]; with_reducible exact H) | (have H2_ := (Option.bind_some _ _).symm.trans H; rw [hy197]; with_reducible exact H2_) | (have H2_ := (Option.bind_some _ _).symm.trans H; with_reducible exact H2_) | with_reducible exact H | (rw [hy197]; exact H) | exact H
 have Ny197 := Aside0.mk hy197
 clear hy197
 have H' := Aside0.mk H
 clear H
 go_enter Tryd.func14, Tryd.ntmps14
 go_wp2_with (first | ((with_reducible refine gate_dst (N := 8) rfl ?_); refine Kd.R_lit Kd.string _ 9 ?hg (N := 8) ?hd (xs := ([] : List ByteArray)) (inner := []) (ok := fun _ => True) (okp := fun _ => True) ?hr ?hp (fun _ hk => hk) trivial (Below.refl _ _) (Nat.le_refl _) (by simp) ?_; (case hd => rfl); (case hg => rfl); (case hr => first | (go_simp; done) | (go_simp; rfl)); (case hp => exact (Reps.none _ _)); intro v198 w3 ho4 hb hg_ hnew_; clear hg_ hnew_; (first | rw [← Ny197.out] at ho4 | (simp only [Int.reduceToNat] at ho4; rw [← Ny197.out] at ho4)); have n0_ := Aside0.mk (Kd.R_lower ho4 (below_size (ul HB.out))); have n1_ := Aside0.mk (below_step (ul HB.out) hb); clear HB; have HO199 := n0_; have HB := n1_; clear n0_ n1_; clear hb ho4))
 go_loopg [5, 6, 7] k (fun kq v5 v6 v7 w' => ∃ (x5_1 : List ByteArray) (x6_1 : Int) (x7_1 : Int), v6 = .int .i64 x6_1 ∧ v7 = .int .i64 x7_1 ∧ Aside0 (spec_l2Parts.l0 kq a0 a1 x5_1 x6_1 x7_1 = some r) ∧ Aside0 (kq ≤ k) ∧ Aside0 (Kd.R Kd.string 9 w' w.heap.size (fun _ => True) v5 x5_1) ∧ Aside0 (Below w.heap.size w w'))
 case atStart => exact ⟨(y197), (0), (0), rs, rs, H', ⟨Nat.le_refl _⟩, ⟨ur HO199.out⟩, ⟨ul HB.out⟩⟩
 case round =>
  clear H'
  try clear c1
  try clear p2
  obtain ⟨x5_1, x6_1, x7_1, rfl, rfl, HA, HK1, HO_5, HB⟩ := hrel
  cases gk with
  | zero => exact absurd HA.out (by simp [spec_l2Parts.l0])
  | succ k1 =>
   have H := HA.out
   clear HA
   simp only [spec_l2Parts.l0] at H
   by_cases c5 : x7_1 < (a0.size : Int)
   ·
    rw [if_pos c5] at H
    have c5b0 : decide (x7_1 < (a0.size : Int)) = true := decide_eq_true c5
    clear c5
    by_cases c6 : 0 ≤ x7_1
    ·
     rw [if_pos c6] at H
     have c6b0 : decide (0 ≤ x7_1) = true := decide_eq_true c6
     clear c6
     by_cases c8 : (bt a0 x7_1) = a1
     ·
      rw [if_pos c8] at H
      have c8b0 : ((bt a0 x7_1) == a1) = true := beq_iff_eq.mpr c8
      have c8b1 : ((bt a0 x7_1) != a1) = false := bne_eq_false_iff_eq.mpr c8
      clear c8
      by_cases c9 : 0 ≤ x6_1
      ·
       rw [if_pos c9] at H
       have c9b0 := eq_true c9
       have c9b1 : decide (0 ≤ x6_1) = true := decide_eq_true c9
       clear c9
       by_cases c10 : x6_1 ≤ x7_1
       ·
        rw [if_pos c10] at H
        have c10b0 := eq_true c10
        have c10b1 : decide (x6_1 ≤ x7_1) = true := decide_eq_true c10
        clear c10
        by_cases c11 : x7_1 ≤ (a0.size : Int)
        ·
         rw [if_pos c11] at H
         have c11b0 := eq_true c11
         have c11b1 : decide (x7_1 ≤ (a0.size : Int)) = true := decide_eq_true c11
         clear c11
         by_cases c12 : x5_1.length < 8796093022208
         ·
          rw [if_pos c12] at H
          have LMc12 := Aside0.mk c12
          clear c12
          obtain ⟨y200, hy200⟩ : ∃ y_ : List ByteArray, y_ = (x5_1 ++ [a0.extract (x6_1 : Int).toNat (x7_1 : Int).toNat]) := ⟨_, rfl⟩
          replace H : (spec_l2Parts.l0 k1 a0 a1 y200 (wrap64 (x7_1 + 1)) (wrap64 (x7_1 + 1))) = some r := by first | (rw [hy200]; with_reducible exact H) | (have H2_ := (Option.bind_some _ _).symm.trans H; rw [hy200]; with_reducible exact H2_) | (have H2_ := (Option.bind_some _ _).symm.trans H; with_reducible exact H2_) | with_reducible exact H | (rw [hy200]; exact H) | exact H
          have Ny200 := Aside0.mk hy200
          clear hy200
          have H' := Aside0.mk H
          clear H
          have p7 : 0 ≤ (x7_1 : Int) := of_decide_eq_true (by assumption)
          have q7 : x7_1 < (a0.size : Int) := of_decide_eq_true (by assumption)
          have hx7 := bt_at a0 x7_1
          replace p7 := eq_true p7
          replace q7 := eq_true q7
          go_wp2_with (first | ((with_reducible refine gate_builtin (b := .append) (xs := #[.tmp 20, .tmp 25]) rfl ?_); at_builtin; refine Kd.R_append Kd.string (w0 := w) w.heap.size rfl (.tmp 20) (.tmp 25) 31 9 (.string ⟨#[]⟩) 16 rfl Tryd.underlying31 info9 rfl (by decide) (by omega) u5 x5_1 (a0.extract (x6_1 : Int).toNat (x7_1 : Int).toNat) [.string (a0.extract (x6_1 : Int).toNat (x7_1 : Int).toNat)] (fun _ => True) (fun _ => False) rfl rfl ?aP (fun _ hk => hk.elim) ?aF ?aO ?aB ?aS ?aL ?_; (case aP => exact rfl); (case aB => exact (ul HB.out)); (case aF => exact (fun _ _ => trivial)); (case aO => exact (ur HO_5.out)); (case aS => exact (below_size (ul HB.out))); (case aL => have := LMc12.out; omega); intro v201 w13 ho hb hg hat; rw [← Ny200.out] at ho; have n0_ := Aside0.mk (hb); have n1_ := Aside0.mk (ho); clear HB; clear HO_5; have HB := n0_; have HO202 := n1_; clear n0_ n1_; clear ho hb hg hat))
          go_roundg k1
          case measure => have := HK1.out; omega
          case rel => exact ⟨(y200), (wrap64 (x7_1 + 1)), (wrap64 (x7_1 + 1)), rs, rs, H', ⟨by have := HK1.out; omega⟩, ⟨ur HO202.out⟩, ⟨ul HB.out⟩⟩
         ·
          rw [if_neg c12] at H
          exact absurd H (by simp)
        ·
         rw [if_neg c11] at H
         exact absurd H (by simp)
       ·
        rw [if_neg c10] at H
        exact absurd H (by simp)
      ·
       rw [if_neg c9] at H
       exact absurd H (by simp)
     ·
      rw [if_neg c8] at H
      have c8b0 : ((bt a0 x7_1) == a1) = false := beq_eq_false_iff_ne.mpr c8
      have c8b1 : ((bt a0 x7_1) != a1) = true := bne_iff_ne.mpr c8
      have H' := Aside0.mk H
      clear H
      have p7 : 0 ≤ (x7_1 : Int) := of_decide_eq_true (by assumption)
      have q7 : x7_1 < (a0.size : Int) := of_decide_eq_true (by assumption)
      have hx7 := bt_at a0 x7_1
      replace p7 := eq_true p7
      replace q7 := eq_true q7
      go_wp2
      go_roundg k1
      case measure => have := HK1.out; omega
      case rel => exact ⟨(x5_1), (x6_1), (wrap64 (x7_1 + 1)), rs, rs, H', ⟨by have := HK1.out; omega⟩, ⟨ur HO_5.out⟩, ⟨ul HB.out⟩⟩
    ·
     rw [if_neg c6] at H
     exact absurd H (by simp)
   ·
    rw [if_neg c5] at H
    have c5b0 : decide (x7_1 < (a0.size : Int)) = false := decide_eq_false c5
    clear c5
    by_cases c14 : 0 ≤ x6_1
    ·
     rw [if_pos c14] at H
     have c14b0 := eq_true c14
     have c14b1 : decide (0 ≤ x6_1) = true := decide_eq_true c14
     clear c14
     by_cases c15 : x6_1 ≤ (a0.size : Int)
     ·
      rw [if_pos c15] at H
      have c15b0 := eq_true c15
      have c15b1 : decide (x6_1 ≤ (a0.size : Int)) = true := decide_eq_true c15
      clear c15
      by_cases c16 : x5_1.length < 8796093022208
      ·
       rw [if_pos c16] at H
       have LMc16 := Aside0.mk c16
       clear c16
       obtain ⟨y203, hy203⟩ : ∃ y_ : List ByteArray, y_ = (x5_1 ++ [a0.extract (x6_1 : Int).toNat a0.size]) := ⟨_, rfl⟩
       replace H : (some y203) = some r := by first | (rw [hy203]; with_reducible exact H) | (have H2_ := (Option.bind_some _ _).symm.trans H; rw [hy203]; with_reducible exact H2_) | (have H2_ := (Option.bind_some _ _).symm.trans H; with_reducible exact H2_) | with_reducible exact H | (rw [hy203]; exact H) | exact H
       have Ny203 := Aside0.mk hy203
       clear hy203
       obtain rfl := Option.some.inj H
       go_wp2_with (first | ((with_reducible refine gate_builtin (b := .append) (xs := #[.tmp 29, .tmp 33]) rfl ?_); at_builtin; refine Kd.R_append Kd.string (w0 := w) w.heap.size rfl (.tmp 29) (.tmp 33) 31 9 (.string ⟨#[]⟩) 16 rfl Tryd.underlying31 info9 rfl (by decide) (by omega) u5 x5_1 (a0.extract (x6_1 : Int).toNat a0.size) [.string (a0.extract (x6_1 : Int).toNat a0.size)] (fun _ => True) (fun _ => False) rfl rfl ?aP (fun _ hk => hk.elim) ?aF ?aO ?aB ?aS ?aL ?_; (case aP => exact rfl); (case aB => exact (ul HB.out)); (case aF => exact (fun _ _ => trivial)); (case aO => exact (ur HO_5.out)); (case aS => exact (below_size (ul HB.out))); (case aL => have := LMc16.out; omega); intro v204 w17 ho hb hg hat; rw [← Ny203.out] at ho; have n0_ := Aside0.mk (hb); have n1_ := Aside0.mk (ho); clear HB; clear HO_5; have HB := n0_; have HO205 := n1_; clear n0_ n1_; clear ho hb hg hat))
       go_ret
       exact ⟨_, er, by (with_reducible repeat (first | apply Kd.R_alloc | apply Kd.R_drewN | apply Kd.R_drew)); exact HO205.out, ul HB.out⟩
      ·
       rw [if_neg c16] at H
       exact absurd H (by simp)
     ·
      rw [if_neg c15] at H
      exact absurd H (by simp)
    ·
     rw [if_neg c14] at H
     exact absurd H (by simp)

/-! ### spec_l5Value: function 43 -/
def spec_l5Value.j0 : Nat → Int → Bool → Option (Int)
 | 0, _, _ => none
 | k + 1, x0, x8 => if x8 = true then (some ((x0 - 48) % 256)) else (if x0 ≥ 65 then (if x0 ≤ 70 then (some (((x0 - 65) % 256) + 10)) else (some (-1))) else (some (-1)))
def spec_l5Value.f (k : Nat) (a0 : Int) : Option (Int) := if a0 ≥ 48 then (spec_l5Value.j0 k a0 (decide (a0 ≤ 57))) else (spec_l5Value.j0 k a0 false)
set_option maxHeartbeats 8000000 in
set_option maxRecDepth 100000 in
theorem spec_l5Value.calls (k : Nat) (a0 : Int) (r : Int) (w : World) (h : spec_l5Value.f k a0 = some r) :
  Calls Tryd.prog 43 #[.int .u8 a0] w fun e w' => e = .returned (.int .i64 r) ∧ Drawn0 w w' := by
 have H : (if a0 ≥ 48 then (spec_l5Value.j0 k a0 (decide (a0 ≤ 57))) else (spec_l5Value.j0 k a0 false)) = some r := h
 clear h
 have HC2 := Aside0.mk H
 clear H
 go_enter Tryd.func43, Tryd.ntmps43
 go_upto_region 1 with (fail)
 go_cut [8] (fun v8 wc => ∃ (kq : Nat) (x8_1 : Bool), v8 = .bool x8_1 ∧ Aside0 (spec_l5Value.j0 kq a0 x8_1 = some r) ∧ Aside0 (kq ≤ k) ∧ Drawn0 w wc)
 case first =>
  have H := HC2.out
  clear HC2
  by_cases c3 : a0 ≥ 48
  ·
   rw [if_pos c3] at H
   have c3b0 : decide (48 ≤ a0) = true := decide_eq_true c3
   clear c3
   (first | rw [c3b0] | (simp only [i64_w, i32_w]; rw [c3b0]) | skip)
   have H' := Aside0.mk H
   clear H
   go_wp2
   go_meet
   case rel => exact ⟨_, (decide (a0 ≤ 57)), rs, H', ⟨by first | omega | exact Nat.le_refl _⟩, by repeat (first | exact Drawn0.refl _ | apply Drawn0.step)⟩
  ·
   rw [if_neg c3] at H
   have c3b0 : decide (48 ≤ a0) = false := decide_eq_false c3
   clear c3
   (first | rw [c3b0] | (simp only [i64_w, i32_w]; rw [c3b0]) | skip)
   have H' := Aside0.mk H
   clear H
   go_wp2
   go_meet
   case rel => exact ⟨_, (false), rs, H', ⟨by first | omega | exact Nat.le_refl _⟩, by repeat (first | exact Drawn0.refl _ | apply Drawn0.step)⟩
 case rest =>
  clear HC2
  try clear p2
  try clear c3
  try clear c3b0
  obtain ⟨kq, x8_1, rfl, HA, HJ1, ⟨mc1, rfl⟩⟩ := hcut
  cases kq with
  | zero => exact absurd HA.out (by simp [spec_l5Value.j0])
  | succ kj1 =>
   have H := HA.out
   clear HA
   simp only [spec_l5Value.j0] at H
   by_cases c4 : x8_1 = true
   ·
    subst c4
    have H1 : (some ((a0 - 48) % 256)) = some r := by rw [if_pos rfl] at H; exact H
    clear H
    have H := H1
    clear H1
    obtain rfl := Option.some.inj H
    go_wp2
    go_ret
    exact ⟨by first | rfl | (simp; done) | (simp [*]; done), by repeat (first | exact Drawn0.refl _ | apply Drawn0.step)⟩
   ·
    replace c4 := Bool.eq_false_iff.mpr c4
    subst c4
    have H1 : (if a0 ≥ 65 then (if a0 ≤ 70 then (some (((a0 - 65) % 256) + 10)) else (some (-1))) else (some (-1))) = some r := by rw [if_neg (show ¬ (false = true) by decide)] at H; exact H
    clear H
    have H := H1
    clear H1
    by_cases c5 : a0 ≥ 65
    ·
     rw [if_pos c5] at H
     have c5b0 : decide (65 ≤ a0) = true := decide_eq_true c5
     clear c5
     by_cases c6 : a0 ≤ 70
     ·
      rw [if_pos c6] at H
      have c6b0 : decide (a0 ≤ 70) = true := decide_eq_true c6
      clear c6
      obtain rfl := Option.some.inj H
      go_wp2
      go_ret
      exact ⟨by first | rfl | (simp; done) | (simp [*]; done), by repeat (first | exact Drawn0.refl _ | apply Drawn0.step)⟩
     ·
      rw [if_neg c6] at H
      have c6b0 : decide (a0 ≤ 70) = false := decide_eq_false c6
      clear c6
      obtain rfl := Option.some.inj H
      go_wp2
      go_ret
      exact ⟨by first | rfl | (simp; done) | (simp [*]; done), by repeat (first | exact Drawn0.refl _ | apply Drawn0.step)⟩
    ·
     rw [if_neg c5] at H
     have c5b0 : decide (65 ≤ a0) = false := decide_eq_false c5
     clear c5
     obtain rfl := Option.some.inj H
     go_wp2
     go_ret
     exact ⟨by first | rfl | (simp; done) | (simp [*]; done), by repeat (first | exact Drawn0.refl _ | apply Drawn0.step)⟩

end Go.Proofs.YtncdadcmghglkaaDoor.PFnDecodeName
