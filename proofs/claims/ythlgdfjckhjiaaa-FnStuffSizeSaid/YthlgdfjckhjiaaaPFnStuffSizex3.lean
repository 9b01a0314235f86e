/- Written by a program of this session out of the translation: each Go function named below as a Lean function, and the proof that the call answers as that function does; conditions: those in each statement. -/
import Derived.Test.YthlgdfjckhjiaaaPFnStuffSizex0
import Derived.Test.YthlgdfjckhjiaaaPFnStuffSizex1
import Derived.Test.YthlgdfjckhjiaaaPFnStuffSizex2
namespace Go.Proofs.Ythlgdfjckhjiaaa.PFnStuffSize
open Go.RowKit Go.Proofs.YthlgdfjckhjiaaaW.PrintWords Go.Proofs.YthlgdfjckhjiaaaW.PrintLast Go.Proofs.YthlgdfjckhjiaaaW.PrintMore
attribute [local go_sem] max2_int min2_int max_two min_two max_three min_three max_four min_four   -- for this text's walks alone
set_option linter.unusedVariables false
set_option linter.unusedSimpArgs false

/-! ### laws_FnStuffSize: function 11 -/
mutual
def laws_FnStuffSize.j0 : Nat → List ByteArray → ByteArray → Bool → ByteArray → Bool → Bool → Option (Bool)
  | 0, _, _, _, _, _, _ => none
  | k + 1, x3, x4, x5, x6, x7, x36 => if x36 = true then (if x4.toList = x6.toList then (some (x5 == x7)) else (some false)) else (laws_FnStuffSize.l0 k x3 x4 3 0)
def laws_FnStuffSize.l0 : Nat → List ByteArray → ByteArray → Int → Int → Option (Bool)
  | 0, _, _, _, _ => none
  | k + 1, x3, x4, x8, x9 => if x9 < (x3.length : Int) then (if 0 ≤ x9 then (if ((rdOf ByteArray.empty x3 x9).size : Int) > 0 then (if 0 < ((rdOf ByteArray.empty x3 x9).size : Int) then (if (bt (rdOf ByteArray.empty x3 x9) 0) = 46 then (laws_FnStuffSize.l0 k x3 x4 (wrap64 ((wrap64 ((wrap64 (x8 + ((rdOf ByteArray.empty x3 x9).size : Int))) + 2)) + 1)) (wrap64 (x9 + 1))) else (laws_FnStuffSize.l0 k x3 x4 (wrap64 ((wrap64 (x8 + ((rdOf ByteArray.empty x3 x9).size : Int))) + 2)) (wrap64 (x9 + 1)))) else (none)) else (laws_FnStuffSize.l0 k x3 x4 (wrap64 ((wrap64 (x8 + ((rdOf ByteArray.empty x3 x9).size : Int))) + 2)) (wrap64 (x9 + 1)))) else (none)) else (if (x4.size : Int) = x8 then (if 0 ≤ (wrap64 ((x4.size : Int) - 3)) then (if (wrap64 ((x4.size : Int) - 3)) ≤ (x4.size : Int) then (some ((x4.extract ((wrap64 ((x4.size : Int) - 3)) : Int).toNat x4.size).toList == ([46, 13, 10] : List UInt8))) else (none)) else (none)) else (some false))
end
def laws_FnStuffSize.f (k : Nat) (l0 : List Int) : Option (Bool) := if (l0.length : Int) > 1048576 then (some true) else ((spec_DrawStuffLines.f k l0).bind fun t148 => ((impl_StuffLines.f k t148).bind fun bt151 => ((spec_StuffLines.f k t148).bind fun bt153 => (if bt151.1.toList = bt153.1.toList then (if (bt151.2 != bt153.2) = true then (laws_FnStuffSize.j0 k t148 bt151.1 bt151.2 bt153.1 bt153.2 true) else (laws_FnStuffSize.j0 k t148 bt151.1 bt151.2 bt153.1 bt153.2 (!bt151.2))) else (laws_FnStuffSize.j0 k t148 bt151.1 bt151.2 bt153.1 bt153.2 true)))))
theorem laws_FnStuffSize.mono_l : ∀ k, (∀ y0 y1 y2 y3 y4 y5, LeO (laws_FnStuffSize.j0 k y0 y1 y2 y3 y4 y5) (laws_FnStuffSize.j0 (k + 1) y0 y1 y2 y3 y4 y5)) ∧ (∀ y0 y1 y2 y3, LeO (laws_FnStuffSize.l0 k y0 y1 y2 y3) (laws_FnStuffSize.l0 (k + 1) y0 y1 y2 y3))
  | 0 => ⟨fun _ _ _ _ _ _ r h => by simp [laws_FnStuffSize.j0] at h, fun _ _ _ _ r h => by simp [laws_FnStuffSize.l0] at h⟩
  | k + 1 => by
    obtain ⟨ih0, ih1⟩ := laws_FnStuffSize.mono_l k
    refine ⟨?_, ?_⟩
    · intro y0 y1 y2 y3 y4 y5
      unfold laws_FnStuffSize.j0
      repeat' first
      | (with_reducible exact ih0 _ _ _ _ _ _)
      | (with_reducible exact ih1 _ _ _ _)
      | (with_reducible exact impl_StuffLines.mono _ _)
      | (with_reducible exact spec_DrawStuffLines.mono _ _)
      | (with_reducible exact spec_StuffLines.mono _ _)
      | (with_reducible exact LeO.refl _)
      | (with_reducible exact LeO.none _)
      | (with_reducible refine LeO.ite ?_ ?_)
      | (with_reducible refine LeO.bind ?_ (fun _ => ?_))
      | exact ih0 _ _ _ _ _ _
      | exact ih1 _ _ _ _
      | exact impl_StuffLines.mono _ _
      | exact spec_DrawStuffLines.mono _ _
      | exact spec_StuffLines.mono _ _
      | exact LeO.none _
      | refine LeO.ite ?_ ?_
      | refine LeO.bind ?_ (fun _ => ?_)
    · intro y0 y1 y2 y3
      unfold laws_FnStuffSize.l0
      repeat' first
      | (with_reducible exact ih0 _ _ _ _ _ _)
      | (with_reducible exact ih1 _ _ _ _)
      | (with_reducible exact impl_StuffLines.mono _ _)
      | (with_reducible exact spec_DrawStuffLines.mono _ _)
      | (with_reducible exact spec_StuffLines.mono _ _)
      | (with_reducible exact LeO.refl _)
      | (with_reducible exact LeO.none _)
      | (with_reducible refine LeO.ite ?_ ?_)
      | (with_reducible refine LeO.bind ?_ (fun _ => ?_))
      | exact ih0 _ _ _ _ _ _
      | exact ih1 _ _ _ _
      | exact impl_StuffLines.mono _ _
      | exact spec_DrawStuffLines.mono _ _
      | exact spec_StuffLines.mono _ _
      | exact LeO.none _
      | refine LeO.ite ?_ ?_
      | refine LeO.bind ?_ (fun _ => ?_)
theorem laws_FnStuffSize.mono : ∀ a0 k, LeO (laws_FnStuffSize.f k a0) (laws_FnStuffSize.f (k + 1) a0) := by
  intro a0 k
  obtain ⟨ih0, ih1⟩ := laws_FnStuffSize.mono_l k
  unfold laws_FnStuffSize.f
  repeat' first
      | (with_reducible exact ih0 _ _ _ _ _ _)
      | (with_reducible exact ih1 _ _ _ _)
      | (with_reducible exact impl_StuffLines.mono _ _)
      | (with_reducible exact spec_DrawStuffLines.mono _ _)
      | (with_reducible exact spec_StuffLines.mono _ _)
      | (with_reducible exact LeO.refl _)
      | (with_reducible exact LeO.none _)
      | (with_reducible refine LeO.ite ?_ ?_)
      | (with_reducible refine LeO.bind ?_ (fun _ => ?_))
      | exact ih0 _ _ _ _ _ _
      | exact ih1 _ _ _ _
      | exact impl_StuffLines.mono _ _
      | exact spec_DrawStuffLines.mono _ _
      | exact spec_StuffLines.mono _ _
      | exact LeO.none _
      | refine LeO.ite ?_ ?_
      | refine LeO.bind ?_ (fun _ => ?_)
set_option maxHeartbeats 8000000 in
set_option maxRecDepth 100000 in
theorem laws_FnStuffSize.calls (k : Nat) (A0 : Option Addr) (c0 : Nat) (l0 : List Int) (r : Bool) (w : World) (hr0 : Kd.C (Kd.int .u8) w A0 l0.length l0) (hc0 : l0.length ≤ c0) (h : laws_FnStuffSize.f k l0 = some r) :
    Calls Try.prog 11 #[.slice A0 l0.length c0] w fun e w' => e = .returned (.bool r) ∧ Below w.heap.size w w' := by
  have HR0 := Aside0.mk hr0
  have HC0 := Aside0.mk hc0
  clear hr0 hc0
  have HB := Aside0.mk (Below.refl w.heap.size w)
  have H : (if (l0.length : Int) > 1048576 then (some true) else ((spec_DrawStuffLines.f k l0).bind fun t148 => ((impl_StuffLines.f k t148).bind fun bt151 => ((spec_StuffLines.f k t148).bind fun bt153 => (if bt151.1.toList = bt153.1.toList then (if (bt151.2 != bt153.2) = true then (laws_FnStuffSize.j0 k t148 bt151.1 bt151.2 bt153.1 bt153.2 true) else (laws_FnStuffSize.j0 k t148 bt151.1 bt151.2 bt153.1 bt153.2 (!bt151.2))) else (laws_FnStuffSize.j0 k t148 bt151.1 bt151.2 bt153.1 bt153.2 true)))))) = some r := h
  clear h
  by_cases c2 : (l0.length : Int) > 1048576
  · rw [if_pos c2] at H
    have c2b0 : decide (1048576 < (l0.length : Int)) = true := decide_eq_true c2
    have c2b1 : decide (1048576 < l0.length) = true := decide_eq_true (by omega)
    clear c2
    obtain rfl := Option.some.inj H
    go_enter Try.func11, Try.ntmps11
    go_wp2
    go_ret
    exact ⟨by first | rfl | (simp [errW_none, errW_some] <;> rfl) | (simp [*, errW_none, errW_some] <;> rfl), by repeat (first | (with_reducible first | exact HB.out | apply below_alloc | apply pw_below_drewN | apply below_drew1) | exact HB.out)⟩
  · rw [if_neg c2] at H
    have c2b0 : decide (1048576 < (l0.length : Int)) = false := decide_eq_false c2
    have c2b1 : decide (1048576 < l0.length) = false := decide_eq_false (by omega)
    clear c2
    replace H := Option.bind_eq_some_iff.mp H
    obtain ⟨t148, A30, H⟩ := H
    replace H : ((impl_StuffLines.f k t148).bind fun bt151 => ((spec_StuffLines.f k t148).bind fun bt153 => (if bt151.1.toList = bt153.1.toList then (if (bt151.2 != bt153.2) = true then (laws_FnStuffSize.j0 k t148 bt151.1 bt151.2 bt153.1 bt153.2 true) else (laws_FnStuffSize.j0 k t148 bt151.1 bt151.2 bt153.1 bt153.2 (!bt151.2))) else (laws_FnStuffSize.j0 k t148 bt151.1 bt151.2 bt153.1 bt153.2 true)))) = some r := H
    have A3 := Aside0.mk A30
    clear A30
    replace H := Option.bind_eq_some_iff.mp H
    obtain ⟨⟨t151, t152⟩, A40, H⟩ := H
    replace H : ((spec_StuffLines.f k t148).bind fun bt153 => (if t151.toList = bt153.1.toList then (if (t152 != bt153.2) = true then (laws_FnStuffSize.j0 k t148 t151 t152 bt153.1 bt153.2 true) else (laws_FnStuffSize.j0 k t148 t151 t152 bt153.1 bt153.2 (!t152))) else (laws_FnStuffSize.j0 k t148 t151 t152 bt153.1 bt153.2 true))) = some r := H
    have A4 := Aside0.mk A40
    clear A40
    replace H := Option.bind_eq_some_iff.mp H
    obtain ⟨⟨t153, t154⟩, A50, H⟩ := H
    replace H : (if t151.toList = t153.toList then (if (t152 != t154) = true then (laws_FnStuffSize.j0 k t148 t151 t152 t153 t154 true) else (laws_FnStuffSize.j0 k t148 t151 t152 t153 t154 (!t152))) else (laws_FnStuffSize.j0 k t148 t151 t152 t153 t154 true)) = some r := H
    have A5 := Aside0.mk A50
    clear A50
    have HC6 := Aside0.mk H
    clear H
    go_enter Try.func11, Try.ntmps11
    go_upto_region 6 with (first | ((with_reducible refine gate_callee (f := 30) rfl ?_); refine goesL_ (some 14) rfl rfl Try.func30 (by kernel_rfl) rfl #[.slice A0 l0.length c0] rfl (by (try simp only [List.map_toArray, List.map_cons, List.map_nil]); first | done | rfl | (simp only [List.length_drop, List.length_take]; rfl)) ?_; (with_reducible refine (spec_DrawStuffLines.calls k _ _ l0 t148 _ ?side1 ?side2 A3.out).mono ?_); (case side1 => repeat (first | exact HR0.out | (with_reducible refine Kd.C_alloc ?_ _) | (with_reducible refine Kd.C_drewN ?_ _) | (with_reducible refine Kd.C_drew ?_))); (case side2 => exact HC0.out); rintro e w7 ⟨v149, rfl, ho0, hb⟩; refine ⟨_, rfl, ?_⟩; have n0_ := Aside0.mk (Kd.R_lower ho0 (below_size (by repeat (first | (with_reducible first | exact HB.out | apply below_alloc | apply pw_below_drewN | apply below_drew1) | exact HB.out)))); have n1_ := Aside0.mk (below_step (by repeat (first | (with_reducible first | exact HB.out | apply below_alloc | apply pw_below_drewN | apply below_drew1) | exact HB.out)) hb); clear HB; have HO150 := n0_; have HB := n1_; clear n0_ n1_; (try clear hb); (try clear hb2); (try clear hk); (try clear hi); (try clear ho0); obtain ⟨Ao8, co8, eo8⟩ := Kd.R_slice HO150.out; subst eo8) | ((with_reducible refine gate_callee (f := 28) rfl ?_); refine goesL_ (some 17) rfl rfl Try.func28 (by kernel_rfl) rfl #[.slice Ao8 t148.length co8] rfl (by (try simp only [List.map_toArray, List.map_cons, List.map_nil]); first | done | rfl | (simp only [List.length_drop, List.length_take]; rfl)) ?_; (with_reducible refine (impl_StuffLines.calls k _ _ t148 t151 t152 _ ?side1 ?side2 A4.out).mono ?_); (case side1 => repeat (first | exact (Kd.R_reads' HO150.out).2.2 | (with_reducible refine Kd.C_alloc ?_ _) | (with_reducible refine Kd.C_drewN ?_ _) | (with_reducible refine Kd.C_drew ?_))); (case side2 => exact (Kd.R_reads' HO150.out).2.1); rintro e w' ⟨rfl, ⟨nd, rfl⟩⟩; refine ⟨_, rfl, ?_⟩) | ((with_reducible refine gate_callee (f := 26) rfl ?_); refine goesL_ (some 22) rfl rfl Try.func26 (by kernel_rfl) rfl #[.slice Ao8 t148.length co8] rfl (by (try simp only [List.map_toArray, List.map_cons, List.map_nil]); first | done | rfl | (simp only [List.length_drop, List.length_take]; rfl)) ?_; (with_reducible refine (spec_StuffLines.calls k _ _ t148 t153 t154 _ ?side1 ?side2 A5.out).mono ?_); (case side1 => repeat (first | exact (Kd.R_reads' HO150.out).2.2 | (with_reducible refine Kd.C_alloc ?_ _) | (with_reducible refine Kd.C_drewN ?_ _) | (with_reducible refine Kd.C_drew ?_))); (case side2 => exact (Kd.R_reads' HO150.out).2.1); rintro e w' ⟨rfl, ⟨nd, rfl⟩⟩; refine ⟨_, rfl, ?_⟩))
    (try simp only [Act.put, List.setIfInBounds_toArray, List.set_cons_zero, List.set_cons_succ])
    go_cut [36] (fun v36 wc => ∃ (kq : Nat) (x36_5 : Bool), v36 = .bool x36_5 ∧ Aside0 (laws_FnStuffSize.j0 kq t148 t151 t152 t153 t154 x36_5 = some r) ∧ Aside0 (kq ≤ k) ∧ Aside0 (Kd.R Kd.string 9 wc w.heap.size (fun _ => True) (.slice Ao8 t148.length co8) t148) ∧ Aside0 (Below w.heap.size w wc))
    case first =>
      have H := HC6.out
      clear HC6
      by_cases c9 : t151.toList = t153.toList
      · rw [if_pos c9] at H
        have c9b0 : (t151.toList == t153.toList) = true := beq_iff_eq.mpr c9
        have c9b1 : (t151.toList != t153.toList) = false := bne_eq_false_iff_eq.mpr c9
        clear c9
        (first | rw [c9b0] | (simp only [i64_w, i32_w]; rw [c9b0]) | skip)
        by_cases c10 : (t152 != t154) = true
        · rw [if_pos c10] at H
          have c10b0 : (t152 != t154) = true := c10
          (try (have c10b1 : decide (t152 = t154) = false := by simpa using c10))
          (try (have c10b2 : (t152 == t154) = false := by simpa using c10))
          (try (have c10b3 : ¬ (t152 = t154) := by simpa using c10))
          clear c10
          have H' := Aside0.mk H
          clear H
          go_wp2
          go_meet
          case rel => exact ⟨_, (true), (by first | rfl | (simp; done) | (simp [*]; done)), H', ⟨by first | omega | exact Nat.le_refl _⟩, ⟨by (with_reducible repeat (first | apply Kd.R_alloc | apply Kd.R_drewN | apply Kd.R_drew)); exact HO150.out⟩, ⟨by repeat (first | (with_reducible first | exact HB.out | apply below_alloc | apply pw_below_drewN | apply below_drew1) | exact HB.out)⟩⟩
        · rw [if_neg c10] at H
          have c10b0 : (t152 != t154) = false := by simpa using c10
          (try (have c10b1 : decide (t152 = t154) = true := by simpa using c10))
          (try (have c10b2 : (t152 == t154) = true := by simpa using c10))
          clear c10
          have H' := Aside0.mk H
          clear H
          go_wp2
          go_meet
          case rel => exact ⟨_, (!t152), (by first | rfl | (simp; done) | (simp [*]; done)), H', ⟨by first | omega | exact Nat.le_refl _⟩, ⟨by (with_reducible repeat (first | apply Kd.R_alloc | apply Kd.R_drewN | apply Kd.R_drew)); exact HO150.out⟩, ⟨by repeat (first | (with_reducible first | exact HB.out | apply below_alloc | apply pw_below_drewN | apply below_drew1) | exact HB.out)⟩⟩
      · rw [if_neg c9] at H
        have c9b0 : (t151.toList == t153.toList) = false := beq_eq_false_iff_ne.mpr c9
        have c9b1 : (t151.toList != t153.toList) = true := bne_iff_ne.mpr c9
        (first | rw [c9b0] | (simp only [i64_w, i32_w]; rw [c9b0]) | skip)
        have H' := Aside0.mk H
        clear H
        go_wp2
        go_meet
        case rel => exact ⟨_, (true), (by first | rfl | (simp; done) | (simp [*]; done)), H', ⟨by first | omega | exact Nat.le_refl _⟩, ⟨by (with_reducible repeat (first | apply Kd.R_alloc | apply Kd.R_drewN | apply Kd.R_drew)); exact HO150.out⟩, ⟨by repeat (first | (with_reducible first | exact HB.out | apply below_alloc | apply pw_below_drewN | apply below_drew1) | exact HB.out)⟩⟩
    case rest =>
      clear HC6
      try clear c1
      try clear c2
      try clear c2b0
      try clear c2b1
      try clear p2
      try clear c3
      try clear c9
      try clear c9b0
      try clear c9b1
      try clear c10
      try clear c10b0
      try clear c10b1
      try clear c10b2
      obtain ⟨kq, x36_5, rfl, HA, HJ5, HO_3, HB⟩ := hcut
      cases kq with
      | zero => exact absurd HA.out (by simp [laws_FnStuffSize.j0])
      | succ kj5 =>
        have H := HA.out
        clear HA
        simp only [laws_FnStuffSize.j0] at H
        by_cases c11 : x36_5 = true
        · subst c11
          have H1 : (if t151.toList = t153.toList then (some (t152 == t154)) else (some false)) = some r := by rw [if_pos rfl] at H; exact H
          clear H
          have H := H1
          clear H1
          by_cases c12 : t151.toList = t153.toList
          · rw [if_pos c12] at H
            have c12b0 : (t151.toList == t153.toList) = true := beq_iff_eq.mpr c12
            have c12b1 : (t151.toList != t153.toList) = false := bne_eq_false_iff_eq.mpr c12
            clear c12
            obtain rfl := Option.some.inj H
            go_wp2
            go_ret
            exact ⟨by first | rfl | (simp [errW_none, errW_some] <;> rfl) | (simp [*, errW_none, errW_some] <;> rfl), by repeat (first | (with_reducible first | exact HB.out | apply below_alloc | apply pw_below_drewN | apply below_drew1) | exact HB.out)⟩
          · rw [if_neg c12] at H
            have c12b0 : (t151.toList == t153.toList) = false := beq_eq_false_iff_ne.mpr c12
            have c12b1 : (t151.toList != t153.toList) = true := bne_iff_ne.mpr c12
            obtain rfl := Option.some.inj H
            go_wp2
            go_ret
            exact ⟨by first | rfl | (simp [errW_none, errW_some] <;> rfl) | (simp [*, errW_none, errW_some] <;> rfl), by repeat (first | (with_reducible first | exact HB.out | apply below_alloc | apply pw_below_drewN | apply below_drew1) | exact HB.out)⟩
        · replace c11 := Bool.eq_false_iff.mpr c11
          subst c11
          have H1 : (laws_FnStuffSize.l0 kj5 t148 t151 3 0) = some r := by rw [if_neg (show ¬ (false = true) by decide)] at H; exact H
          clear H
          have H := H1
          clear H1
          have H' := Aside0.mk H
          clear H
          go_wp2
          go_loopg [8, 9] kj5 (fun kq v8 v9 w' => ∃ (x8_2 : Int) (x9_2 : Int), v8 = .int .i64 x8_2 ∧ v9 = .int .i64 x9_2 ∧ Aside0 (laws_FnStuffSize.l0 kq t148 t151 x8_2 x9_2 = some r) ∧ Aside0 (kq ≤ kj5) ∧ Aside0 (Kd.R Kd.string 9 w' w.heap.size (fun _ => True) (.slice Ao8 t148.length co8) t148) ∧ Aside0 (Below w.heap.size w w'))
          case atStart => exact ⟨(3), (0), (by first | rfl | (simp; done) | (simp [*]; done)), (by first | rfl | (simp; done) | (simp [*]; done)), H', ⟨Nat.le_refl _⟩, ⟨by (with_reducible repeat (first | apply Kd.R_alloc | apply Kd.R_drewN | apply Kd.R_drew)); exact HO_3.out⟩, ⟨by repeat (first | (with_reducible first | exact HB.out | apply below_alloc | apply pw_below_drewN | apply below_drew1) | exact HB.out)⟩⟩
          case round =>
            clear H'
            try clear c1
            try clear c2
            try clear c2b0
            try clear c2b1
            try clear p2
            try clear c3
            try clear c9
            try clear c9b0
            try clear c9b1
            try clear c10
            try clear c10b0
            try clear c10b1
            try clear c10b2
            try clear c11
            try clear c12
            try clear c12b0
            try clear c12b1
            try clear p2
            obtain ⟨x8_2, x9_2, rfl, rfl, HA, HK2, HO_3, HB⟩ := hrel
            cases gk with
            | zero => exact absurd HA.out (by simp [laws_FnStuffSize.l0])
            | succ k2 =>
              have H := HA.out
              clear HA
              simp only [laws_FnStuffSize.l0] at H
              by_cases c13 : x9_2 < (t148.length : Int)
              · rw [if_pos c13] at H
                have c13b0 : decide (x9_2 < (t148.length : Int)) = true := decide_eq_true c13
                clear c13
                by_cases c14 : 0 ≤ x9_2
                · rw [if_pos c14] at H
                  have c14b0 : decide (0 ≤ x9_2) = true := decide_eq_true c14
                  clear c14
                  by_cases c15 : ((rdOf ByteArray.empty t148 x9_2).size : Int) > 0
                  · rw [if_pos c15] at H
                    have c15b0 : decide (0 < ((rdOf ByteArray.empty t148 x9_2).size : Int)) = true := decide_eq_true c15
                    have c15b1 : decide (0 < (rdOf ByteArray.empty t148 x9_2).size) = true := decide_eq_true (by omega)
                    clear c15
                    by_cases c16 : 0 < ((rdOf ByteArray.empty t148 x9_2).size : Int)
                    · rw [if_pos c16] at H
                      have c16b0 : decide (0 < ((rdOf ByteArray.empty t148 x9_2).size : Int)) = true := decide_eq_true c16
                      have c16b1 : decide (0 < (rdOf ByteArray.empty t148 x9_2).size) = true := decide_eq_true (by omega)
                      clear c16
                      by_cases c18 : (bt (rdOf ByteArray.empty t148 x9_2) 0) = 46
                      · rw [if_pos c18] at H
                        have c18b0 : ((bt (rdOf ByteArray.empty t148 x9_2) 0) == 46) = true := beq_iff_eq.mpr c18
                        have c18b1 : ((bt (rdOf ByteArray.empty t148 x9_2) 0) != 46) = false := bne_eq_false_iff_eq.mpr c18
                        clear c18
                        have H' := Aside0.mk H
                        clear H
                        have p155 : 0 ≤ (x9_2 : Int) := of_decide_eq_true (by first | (with_reducible assumption) | assumption)
                        have q155 : x9_2 < (t148.length : Int) := of_decide_eq_true (by first | (with_reducible assumption) | assumption)
                        obtain ⟨ad155, e155, hx155_0⟩ := Kd.at_string (Kd.R_reads' HO_3.out).2.2 x9_2 p155 q155
                        cases e155
                        replace p155 := eq_true p155
                        replace q155 := eq_true q155
                        have p156 : 0 ≤ (x9_2 : Int) := of_decide_eq_true (by first | (with_reducible assumption) | assumption)
                        have q156 : x9_2 < (t148.length : Int) := of_decide_eq_true (by first | (with_reducible assumption) | assumption)
                        obtain ⟨ad156, e156, hx156_0⟩ := Kd.at_string (Kd.R_reads' HO_3.out).2.2 x9_2 p156 q156
                        obtain rfl : ad155 = ad156 := (by injection e156)
                        replace p156 := eq_true p156
                        replace q156 := eq_true q156
                        have p157 : 0 ≤ (x9_2 : Int) := of_decide_eq_true (by first | (with_reducible assumption) | assumption)
                        have q157 : x9_2 < (t148.length : Int) := of_decide_eq_true (by first | (with_reducible assumption) | assumption)
                        obtain ⟨ad157, e157, hx157_0⟩ := Kd.at_string (Kd.R_reads' HO_3.out).2.2 x9_2 p157 q157
                        obtain rfl : ad155 = ad157 := (by injection e157)
                        replace p157 := eq_true p157
                        replace q157 := eq_true q157
                        have p17 : 0 ≤ (0 : Int) := (by omega)
                        have q17 : 0 < (rdOf ByteArray.empty t148 x9_2).size := (by have : (0 : Int) < ((rdOf ByteArray.empty t148 x9_2).size : Int) := of_decide_eq_true (by first | (with_reducible assumption) | assumption); omega)
                        have hx17 : ∀ h : 0 < (rdOf ByteArray.empty t148 x9_2).size, (((rdOf ByteArray.empty t148 x9_2)[0]'h).toNat : Int) = bt (rdOf ByteArray.empty t148 x9_2) 0 := bt_at (rdOf ByteArray.empty t148 x9_2) 0
                        clear p17
                        have qi17 : (0 < ((rdOf ByteArray.empty t148 x9_2).size : Int)) = True := eq_true (of_decide_eq_true (by first | (with_reducible assumption) | assumption))
                        replace q17 := eq_true q17
                        go_wp2
                        go_roundg k2
                        case measure => have := HJ5.out; have := HK2.out; omega
                        case rel => exact ⟨(wrap64 ((wrap64 ((wrap64 (x8_2 + ((rdOf ByteArray.empty t148 x9_2).size : Int))) + 2)) + 1)), (wrap64 (x9_2 + 1)), (by first | rfl | (simp; done) | (simp [*]; done)), (by first | rfl | (simp; done) | (simp [*]; done)), H', ⟨by have := HJ5.out; have := HK2.out; omega⟩, ⟨by (with_reducible repeat (first | apply Kd.R_alloc | apply Kd.R_drewN | apply Kd.R_drew)); exact HO_3.out⟩, ⟨by repeat (first | (with_reducible first | exact HB.out | apply below_alloc | apply pw_below_drewN | apply below_drew1) | exact HB.out)⟩⟩
                      · rw [if_neg c18] at H
                        have c18b0 : ((bt (rdOf ByteArray.empty t148 x9_2) 0) == 46) = false := beq_eq_false_iff_ne.mpr c18
                        have c18b1 : ((bt (rdOf ByteArray.empty t148 x9_2) 0) != 46) = true := bne_iff_ne.mpr c18
                        have H' := Aside0.mk H
                        clear H
                        have p155 : 0 ≤ (x9_2 : Int) := of_decide_eq_true (by first | (with_reducible assumption) | assumption)
                        have q155 : x9_2 < (t148.length : Int) := of_decide_eq_true (by first | (with_reducible assumption) | assumption)
                        obtain ⟨ad155, e155, hx155_0⟩ := Kd.at_string (Kd.R_reads' HO_3.out).2.2 x9_2 p155 q155
                        cases e155
                        replace p155 := eq_true p155
                        replace q155 := eq_true q155
                        have p156 : 0 ≤ (x9_2 : Int) := of_decide_eq_true (by first | (with_reducible assumption) | assumption)
                        have q156 : x9_2 < (t148.length : Int) := of_decide_eq_true (by first | (with_reducible assumption) | assumption)
                        obtain ⟨ad156, e156, hx156_0⟩ := Kd.at_string (Kd.R_reads' HO_3.out).2.2 x9_2 p156 q156
                        obtain rfl : ad155 = ad156 := (by injection e156)
                        replace p156 := eq_true p156
                        replace q156 := eq_true q156
                        have p157 : 0 ≤ (x9_2 : Int) := of_decide_eq_true (by first | (with_reducible assumption) | assumption)
                        have q157 : x9_2 < (t148.length : Int) := of_decide_eq_true (by first | (with_reducible assumption) | assumption)
                        obtain ⟨ad157, e157, hx157_0⟩ := Kd.at_string (Kd.R_reads' HO_3.out).2.2 x9_2 p157 q157
                        obtain rfl : ad155 = ad157 := (by injection e157)
                        replace p157 := eq_true p157
                        replace q157 := eq_true q157
                        have p17 : 0 ≤ (0 : Int) := (by omega)
                        have q17 : 0 < (rdOf ByteArray.empty t148 x9_2).size := (by have : (0 : Int) < ((rdOf ByteArray.empty t148 x9_2).size : Int) := of_decide_eq_true (by first | (with_reducible assumption) | assumption); omega)
                        have hx17 : ∀ h : 0 < (rdOf ByteArray.empty t148 x9_2).size, (((rdOf ByteArray.empty t148 x9_2)[0]'h).toNat : Int) = bt (rdOf ByteArray.empty t148 x9_2) 0 := bt_at (rdOf ByteArray.empty t148 x9_2) 0
                        clear p17
                        have qi17 : (0 < ((rdOf ByteArray.empty t148 x9_2).size : Int)) = True := eq_true (of_decide_eq_true (by first | (with_reducible assumption) | assumption))
                        replace q17 := eq_true q17
                        go_wp2
                        go_roundg k2
                        case measure => have := HJ5.out; have := HK2.out; omega
                        case rel => exact ⟨(wrap64 ((wrap64 (x8_2 + ((rdOf ByteArray.empty t148 x9_2).size : Int))) + 2)), (wrap64 (x9_2 + 1)), (by first | rfl | (simp; done) | (simp [*]; done)), (by first | rfl | (simp; done) | (simp [*]; done)), H', ⟨by have := HJ5.out; have := HK2.out; omega⟩, ⟨by (with_reducible repeat (first | apply Kd.R_alloc | apply Kd.R_drewN | apply Kd.R_drew)); exact HO_3.out⟩, ⟨by repeat (first | (with_reducible first | exact HB.out | apply below_alloc | apply pw_below_drewN | apply below_drew1) | exact HB.out)⟩⟩
                    · rw [if_neg c16] at H
                      exact absurd H (by simp)
                  · rw [if_neg c15] at H
                    have c15b0 : decide (0 < ((rdOf ByteArray.empty t148 x9_2).size : Int)) = false := decide_eq_false c15
                    have c15b1 : decide (0 < (rdOf ByteArray.empty t148 x9_2).size) = false := decide_eq_false (by omega)
                    clear c15
                    have H' := Aside0.mk H
                    clear H
                    have p155 : 0 ≤ (x9_2 : Int) := of_decide_eq_true (by first | (with_reducible assumption) | assumption)
                    have q155 : x9_2 < (t148.length : Int) := of_decide_eq_true (by first | (with_reducible assumption) | assumption)
                    obtain ⟨ad155, e155, hx155_0⟩ := Kd.at_string (Kd.R_reads' HO_3.out).2.2 x9_2 p155 q155
                    cases e155
                    replace p155 := eq_true p155
                    replace q155 := eq_true q155
                    have p156 : 0 ≤ (x9_2 : Int) := of_decide_eq_true (by first | (with_reducible assumption) | assumption)
                    have q156 : x9_2 < (t148.length : Int) := of_decide_eq_true (by first | (with_reducible assumption) | assumption)
                    obtain ⟨ad156, e156, hx156_0⟩ := Kd.at_string (Kd.R_reads' HO_3.out).2.2 x9_2 p156 q156
                    obtain rfl : ad155 = ad156 := (by injection e156)
                    replace p156 := eq_true p156
                    replace q156 := eq_true q156
                    go_wp2
                    go_roundg k2
                    case measure => have := HJ5.out; have := HK2.out; omega
                    case rel => exact ⟨(wrap64 ((wrap64 (x8_2 + ((rdOf ByteArray.empty t148 x9_2).size : Int))) + 2)), (wrap64 (x9_2 + 1)), (by first | rfl | (simp; done) | (simp [*]; done)), (by first | rfl | (simp; done) | (simp [*]; done)), H', ⟨by have := HJ5.out; have := HK2.out; omega⟩, ⟨by (with_reducible repeat (first | apply Kd.R_alloc | apply Kd.R_drewN | apply Kd.R_drew)); exact HO_3.out⟩, ⟨by repeat (first | (with_reducible first | exact HB.out | apply below_alloc | apply pw_below_drewN | apply below_drew1) | exact HB.out)⟩⟩
                · rw [if_neg c14] at H
                  exact absurd H (by simp)
              · rw [if_neg c13] at H
                have c13b0 : decide (x9_2 < (t148.length : Int)) = false := decide_eq_false c13
                clear c13
                by_cases c19 : (t151.size : Int) = x8_2
                · rw [if_pos c19] at H
                  have c19b0 : ((t151.size : Int) == x8_2) = true := beq_iff_eq.mpr c19
                  have c19b1 : ((t151.size : Int) != x8_2) = false := bne_eq_false_iff_eq.mpr c19
                  clear c19
                  obtain ⟨ji20, hji20⟩ : ∃ j_ : Int, (wrap64 ((t151.size : Int) - 3)) = j_ := ⟨_, rfl⟩
                  replace H : (if 0 ≤ (ji20) then (if (ji20) ≤ (t151.size : Int) then (some ((t151.extract ((ji20) : Int).toNat t151.size).toList == ([46, 13, 10] : List UInt8))) else (none)) else (none)) = some r := by first | (rw [hji20] at H; exact H) | (simp only [hji20] at H ⊢; exact H)
                  have hji20w : (IntKind.i64.wrap ((t151.size : Int) - 3)) = ji20 := (i64_w _).trans hji20
                  by_cases c21 : 0 ≤ (ji20)
                  · rw [if_pos c21] at H
                    have c21b0 := eq_true c21
                    have c21b1 : decide (0 ≤ (ji20)) = true := decide_eq_true c21
                    clear c21
                    by_cases c22 : (ji20) ≤ (t151.size : Int)
                    · rw [if_pos c22] at H
                      have c22b0 := eq_true c22
                      have c22b1 : decide ((ji20) ≤ (t151.size : Int)) = true := decide_eq_true c22
                      clear c22
                      obtain rfl := Option.some.inj H
                      go_wp2
                      go_ret
                      exact ⟨by first | rfl | (simp [errW_none, errW_some] <;> rfl) | (simp only [← hji20]; first | rfl | (simp [errW_none, errW_some] <;> rfl)) | (simp [*, errW_none, errW_some] <;> rfl), by repeat (first | (with_reducible first | exact HB.out | apply below_alloc | apply pw_below_drewN | apply below_drew1) | exact HB.out)⟩
                    · rw [if_neg c22] at H
                      exact absurd H (by simp)
                  · rw [if_neg c21] at H
                    exact absurd H (by simp)
                · rw [if_neg c19] at H
                  have c19b0 : ((t151.size : Int) == x8_2) = false := beq_eq_false_iff_ne.mpr c19
                  have c19b1 : ((t151.size : Int) != x8_2) = true := bne_iff_ne.mpr c19
                  obtain rfl := Option.some.inj H
                  go_wp2
                  go_ret
                  exact ⟨by first | rfl | (simp [errW_none, errW_some] <;> rfl) | (simp [*, errW_none, errW_some] <;> rfl), by repeat (first | (with_reducible first | exact HB.out | apply below_alloc | apply pw_below_drewN | apply below_drew1) | exact HB.out)⟩

/-- THE ONE PURE STATEMENT of laws_FnStuffSize: yours. -/
def laws_FnStuffSize.Pure : Prop := ∀ (l0 : List Int), l0.length ≤ maxLen → l0.length * 1 ≤ 140737488351232 → (∀ x ∈ l0, (Lit.int .u8 x).wf = true) → ∃ k, laws_FnStuffSize.f k l0 = some true
theorem laws_FnStuffSize.walk (P : laws_FnStuffSize.Pure) (a0 : Option Addr) (len0 cap0 : Nat) (z0 : List Int) (w : World) (w0 : (a0 = none ∧ len0 = 0 ∧ cap0 = 0 ∧ z0 = []) ∨ ∃ x, a0 = some x ∧ len0 ≤ cap0 ∧ cap0 ≤ maxLen ∧ z0.length = cap0 ∧ (∀ i, i < z0.length → w.cell? (x.add i) = some (.int .u8 (z0.getD i 0))) ∧ ∀ n ∈ z0, (Lit.int .u8 n).wf = true) (y0 : len0 * 1 ≤ 140737488351232) :
    Calls Try.prog 11 #[.slice a0 len0 cap0] w fun e w' => e = .returned (.bool true) ∧ Below w.heap.size w w' := by
  obtain ⟨l0, rfl, hr0, hm0, hw0, hc0⟩ := ReadsInt.ofRowC w0
  obtain ⟨k, h⟩ := P l0 hm0 y0 hw0
  refine (laws_FnStuffSize.calls k _ _ l0 true w (Kd.C_of_reads (d := (0 : Int)) (h1 := fun _ => rfl) hr0) hc0 h).mono ?_
  rintro e w' ⟨rfl, hd⟩
  exact ⟨rfl, hd⟩

end Go.Proofs.Ythlgdfjckhjiaaa.PFnStuffSize
