/- Written by a program of this session out of the translation: each Go function named below as a Lean function, and the proof that the call answers as that function does; conditions: those in each statement. -/
import Derived.Test.YtengipddcaookaaPFnSplitLinesx0
import Derived.Test.YtengipddcaookaaPFnSplitLinesx1
import Derived.Test.YtengipddcaookaaPFnSplitLinesx2
import Derived.Test.YtengipddcaookaaPFnSplitLinesx3
namespace Go.Proofs.Ytengipddcaookaa.PFnSplitLines
open Go.RowKit Go.Proofs.Ytengipddcaookaa.X Go.Proofs.YtengipddcaookaaW.PrintWords Go.Proofs.YtengipddcaookaaW.PrintLast Go.Proofs.YtengipddcaookaaW.PrintMore
attribute [local go_sem] max2_int min2_int max_two min_two max_three min_three max_four min_four   -- for this text's walks alone
set_option linter.unusedVariables false
set_option linter.unusedSimpArgs false

/-! ### laws_FnSplitLines: function 5 -/
mutual
def laws_FnSplitLines.j0 : Nat → List ByteArray → ByteArray → List (List ByteArray) → Bool → List (List ByteArray) → Bool → Bool → Option (Bool)
  | 0, _, _, _, _, _, _, _ => none
  | k + 1, x3, x4, x5, x6, x7, x8, x45 => if x45 = true then (if (x5.length : Int) = (x7.length : Int) then (some (x6 == x8)) else (some false)) else (laws_FnSplitLines.l0 k x3 x4 x5 (wrap64 ((x5.length : Int) + 1)) 0)
def laws_FnSplitLines.l0 : Nat → List ByteArray → ByteArray → List (List ByteArray) → Int → Int → Option (Bool)
  | 0, _, _, _, _, _ => none
  | k + 1, x3, x4, x5, x9, x10 => if x10 < (x5.length : Int) then (if 0 ≤ x10 then (laws_FnSplitLines.l1 k x3 x4 x5 (wrap64 (x9 + ((rd_L3 x5 x10).length : Int))) x10 0) else (none)) else (some (decide (x9 ≤ (x3.length : Int))))
def laws_FnSplitLines.l1 : Nat → List ByteArray → ByteArray → List (List ByteArray) → Int → Int → Int → Option (Bool)
  | 0, _, _, _, _, _, _ => none
  | k + 1, x3, x4, x5, x9, x10, x11 => if 0 ≤ x10 then (if x10 < (x5.length : Int) then (if x11 < ((rd_L3 x5 x10).length : Int) then (if 0 ≤ x11 then (if 2 + x4.size ≤ 9223372036854775807 then (if (rdOf ByteArray.empty (rd_L3 x5 x10) x11).toList = ((⟨#[45, 45]⟩ : ByteArray) ++ x4).toList then (some false) else (if ((⟨#[45, 45]⟩ : ByteArray) ++ x4).size + 2 ≤ 9223372036854775807 then (if (rdOf ByteArray.empty (rd_L3 x5 x10) x11).toList = (((⟨#[45, 45]⟩ : ByteArray) ++ x4) ++ (⟨#[45, 45]⟩ : ByteArray)).toList then (some false) else (laws_FnSplitLines.l1 k x3 x4 x5 x9 x10 (wrap64 (x11 + 1)))) else (none))) else (none)) else (none)) else (laws_FnSplitLines.l0 k x3 x4 x5 x9 (wrap64 (x10 + 1)))) else (none)) else (none)
end
def laws_FnSplitLines.f (k : Nat) (l0 : List Int) : Option (Bool) := if (l0.length : Int) > 1048576 then (some true) else ((spec_DrawSplitParts.f k l0).bind fun bt224 => ((impl_SplitParts.f k bt224.1 bt224.2).bind fun bt228 => ((spec_SplitParts.f k bt224.1 bt224.2).bind fun bt232 => (if (bt228.1.length : Int) = (bt232.1.length : Int) then (if (bt228.2 != bt232.2) = true then (laws_FnSplitLines.j0 k bt224.1 bt224.2 bt228.1 bt228.2 bt232.1 bt232.2 true) else (laws_FnSplitLines.j0 k bt224.1 bt224.2 bt228.1 bt228.2 bt232.1 bt232.2 (!bt228.2))) else (laws_FnSplitLines.j0 k bt224.1 bt224.2 bt228.1 bt228.2 bt232.1 bt232.2 true)))))
theorem laws_FnSplitLines.mono_l : ∀ k, (∀ y0 y1 y2 y3 y4 y5 y6, LeO (laws_FnSplitLines.j0 k y0 y1 y2 y3 y4 y5 y6) (laws_FnSplitLines.j0 (k + 1) y0 y1 y2 y3 y4 y5 y6)) ∧ (∀ y0 y1 y2 y3 y4, LeO (laws_FnSplitLines.l0 k y0 y1 y2 y3 y4) (laws_FnSplitLines.l0 (k + 1) y0 y1 y2 y3 y4)) ∧ (∀ y0 y1 y2 y3 y4 y5, LeO (laws_FnSplitLines.l1 k y0 y1 y2 y3 y4 y5) (laws_FnSplitLines.l1 (k + 1) y0 y1 y2 y3 y4 y5))
  | 0 => ⟨fun _ _ _ _ _ _ _ r h => by simp [laws_FnSplitLines.j0] at h, fun _ _ _ _ _ r h => by simp [laws_FnSplitLines.l0] at h, fun _ _ _ _ _ _ r h => by simp [laws_FnSplitLines.l1] at h⟩
  | k + 1 => by
    obtain ⟨ih0, ih1, ih2⟩ := laws_FnSplitLines.mono_l k
    refine ⟨?_, ?_, ?_⟩
    · intro y0 y1 y2 y3 y4 y5 y6
      unfold laws_FnSplitLines.j0
      repeat' first
      | (with_reducible exact ih0 _ _ _ _ _ _ _)
      | (with_reducible exact ih1 _ _ _ _ _)
      | (with_reducible exact ih2 _ _ _ _ _ _)
      | (with_reducible exact impl_SplitParts.mono _ _ _)
      | (with_reducible exact spec_DrawSplitParts.mono _ _)
      | (with_reducible exact spec_SplitParts.mono _ _ _)
      | (with_reducible exact LeO.refl _)
      | (with_reducible exact LeO.none _)
      | (with_reducible refine LeO.ite ?_ ?_)
      | (with_reducible refine LeO.bind ?_ (fun _ => ?_))
      | exact ih0 _ _ _ _ _ _ _
      | exact ih1 _ _ _ _ _
      | exact ih2 _ _ _ _ _ _
      | exact impl_SplitParts.mono _ _ _
      | exact spec_DrawSplitParts.mono _ _
      | exact spec_SplitParts.mono _ _ _
      | exact LeO.none _
      | refine LeO.ite ?_ ?_
      | refine LeO.bind ?_ (fun _ => ?_)
    · intro y0 y1 y2 y3 y4
      unfold laws_FnSplitLines.l0
      repeat' first
      | (with_reducible exact ih0 _ _ _ _ _ _ _)
      | (with_reducible exact ih1 _ _ _ _ _)
      | (with_reducible exact ih2 _ _ _ _ _ _)
      | (with_reducible exact impl_SplitParts.mono _ _ _)
      | (with_reducible exact spec_DrawSplitParts.mono _ _)
      | (with_reducible exact spec_SplitParts.mono _ _ _)
      | (with_reducible exact LeO.refl _)
      | (with_reducible exact LeO.none _)
      | (with_reducible refine LeO.ite ?_ ?_)
      | (with_reducible refine LeO.bind ?_ (fun _ => ?_))
      | exact ih0 _ _ _ _ _ _ _
      | exact ih1 _ _ _ _ _
      | exact ih2 _ _ _ _ _ _
      | exact impl_SplitParts.mono _ _ _
      | exact spec_DrawSplitParts.mono _ _
      | exact spec_SplitParts.mono _ _ _
      | exact LeO.none _
      | refine LeO.ite ?_ ?_
      | refine LeO.bind ?_ (fun _ => ?_)
    · intro y0 y1 y2 y3 y4 y5
      unfold laws_FnSplitLines.l1
      repeat' first
      | (with_reducible exact ih0 _ _ _ _ _ _ _)
      | (with_reducible exact ih1 _ _ _ _ _)
      | (with_reducible exact ih2 _ _ _ _ _ _)
      | (with_reducible exact impl_SplitParts.mono _ _ _)
      | (with_reducible exact spec_DrawSplitParts.mono _ _)
      | (with_reducible exact spec_SplitParts.mono _ _ _)
      | (with_reducible exact LeO.refl _)
      | (with_reducible exact LeO.none _)
      | (with_reducible refine LeO.ite ?_ ?_)
      | (with_reducible refine LeO.bind ?_ (fun _ => ?_))
      | exact ih0 _ _ _ _ _ _ _
      | exact ih1 _ _ _ _ _
      | exact ih2 _ _ _ _ _ _
      | exact impl_SplitParts.mono _ _ _
      | exact spec_DrawSplitParts.mono _ _
      | exact spec_SplitParts.mono _ _ _
      | exact LeO.none _
      | refine LeO.ite ?_ ?_
      | refine LeO.bind ?_ (fun _ => ?_)
theorem laws_FnSplitLines.mono : ∀ a0 k, LeO (laws_FnSplitLines.f k a0) (laws_FnSplitLines.f (k + 1) a0) := by
  intro a0 k
  obtain ⟨ih0, ih1, ih2⟩ := laws_FnSplitLines.mono_l k
  unfold laws_FnSplitLines.f
  repeat' first
      | (with_reducible exact ih0 _ _ _ _ _ _ _)
      | (with_reducible exact ih1 _ _ _ _ _)
      | (with_reducible exact ih2 _ _ _ _ _ _)
      | (with_reducible exact impl_SplitParts.mono _ _ _)
      | (with_reducible exact spec_DrawSplitParts.mono _ _)
      | (with_reducible exact spec_SplitParts.mono _ _ _)
      | (with_reducible exact LeO.refl _)
      | (with_reducible exact LeO.none _)
      | (with_reducible refine LeO.ite ?_ ?_)
      | (with_reducible refine LeO.bind ?_ (fun _ => ?_))
      | exact ih0 _ _ _ _ _ _ _
      | exact ih1 _ _ _ _ _
      | exact ih2 _ _ _ _ _ _
      | exact impl_SplitParts.mono _ _ _
      | exact spec_DrawSplitParts.mono _ _
      | exact spec_SplitParts.mono _ _ _
      | exact LeO.none _
      | refine LeO.ite ?_ ?_
      | refine LeO.bind ?_ (fun _ => ?_)
set_option maxHeartbeats 8000000 in
set_option maxRecDepth 100000 in
theorem laws_FnSplitLines.calls (k : Nat) (A0 : Option Addr) (c0 : Nat) (l0 : List Int) (r : Bool) (w : World) (hr0 : Kd.C (Kd.int .u8) w A0 l0.length l0) (hc0 : l0.length ≤ c0) (h : laws_FnSplitLines.f k l0 = some r) :
    Calls Try.prog 5 #[.slice A0 l0.length c0] w fun e w' => e = .returned (.bool r) ∧ Below w.heap.size w w' := by
  have HR0 := Aside0.mk hr0
  have HC0 := Aside0.mk hc0
  clear hr0 hc0
  have HB := Aside0.mk (Below.refl w.heap.size w)
  have H : (if (l0.length : Int) > 1048576 then (some true) else ((spec_DrawSplitParts.f k l0).bind fun bt224 => ((impl_SplitParts.f k bt224.1 bt224.2).bind fun bt228 => ((spec_SplitParts.f k bt224.1 bt224.2).bind fun bt232 => (if (bt228.1.length : Int) = (bt232.1.length : Int) then (if (bt228.2 != bt232.2) = true then (laws_FnSplitLines.j0 k bt224.1 bt224.2 bt228.1 bt228.2 bt232.1 bt232.2 true) else (laws_FnSplitLines.j0 k bt224.1 bt224.2 bt228.1 bt228.2 bt232.1 bt232.2 (!bt228.2))) else (laws_FnSplitLines.j0 k bt224.1 bt224.2 bt228.1 bt228.2 bt232.1 bt232.2 true)))))) = some r := h
  clear h
  by_cases c2 : (l0.length : Int) > 1048576
  · rw [if_pos c2] at H
    have c2b0 : decide (1048576 < (l0.length : Int)) = true := decide_eq_true c2
    have c2b1 : decide (1048576 < l0.length) = true := decide_eq_true (by omega)
    clear c2
    obtain rfl := Option.some.inj H
    go_enter Try.func5, Try.ntmps5
    go_wp2
    go_ret
    exact ⟨by first | rfl | (simp [errW_none, errW_some] <;> rfl) | (simp [*, errW_none, errW_some] <;> rfl), by repeat (first | (with_reducible first | exact HB.out | apply below_alloc | apply pw_below_drewN | apply below_drew1) | exact HB.out)⟩
  · rw [if_neg c2] at H
    have c2b0 : decide (1048576 < (l0.length : Int)) = false := decide_eq_false c2
    have c2b1 : decide (1048576 < l0.length) = false := decide_eq_false (by omega)
    clear c2
    replace H := Option.bind_eq_some_iff.mp H
    obtain ⟨⟨t224, t225⟩, A30, H⟩ := H
    replace H : ((impl_SplitParts.f k t224 t225).bind fun bt228 => ((spec_SplitParts.f k t224 t225).bind fun bt232 => (if (bt228.1.length : Int) = (bt232.1.length : Int) then (if (bt228.2 != bt232.2) = true then (laws_FnSplitLines.j0 k t224 t225 bt228.1 bt228.2 bt232.1 bt232.2 true) else (laws_FnSplitLines.j0 k t224 t225 bt228.1 bt228.2 bt232.1 bt232.2 (!bt228.2))) else (laws_FnSplitLines.j0 k t224 t225 bt228.1 bt228.2 bt232.1 bt232.2 true)))) = some r := H
    have A3 := Aside0.mk A30
    clear A30
    replace H := Option.bind_eq_some_iff.mp H
    obtain ⟨⟨t228, t229⟩, A40, H⟩ := H
    replace H : ((spec_SplitParts.f k t224 t225).bind fun bt232 => (if (t228.length : Int) = (bt232.1.length : Int) then (if (t229 != bt232.2) = true then (laws_FnSplitLines.j0 k t224 t225 t228 t229 bt232.1 bt232.2 true) else (laws_FnSplitLines.j0 k t224 t225 t228 t229 bt232.1 bt232.2 (!t229))) else (laws_FnSplitLines.j0 k t224 t225 t228 t229 bt232.1 bt232.2 true))) = some r := H
    have A4 := Aside0.mk A40
    clear A40
    replace H := Option.bind_eq_some_iff.mp H
    obtain ⟨⟨t232, t233⟩, A50, H⟩ := H
    replace H : (if (t228.length : Int) = (t232.length : Int) then (if (t229 != t233) = true then (laws_FnSplitLines.j0 k t224 t225 t228 t229 t232 t233 true) else (laws_FnSplitLines.j0 k t224 t225 t228 t229 t232 t233 (!t229))) else (laws_FnSplitLines.j0 k t224 t225 t228 t229 t232 t233 true)) = some r := H
    have A5 := Aside0.mk A50
    clear A50
    have HC6 := Aside0.mk H
    clear H
    go_enter Try.func5, Try.ntmps5
    go_upto_region 6 with (first | ((with_reducible refine gate_callee (f := 25) rfl ?_); refine goesL_ (some 17) rfl rfl Try.func25 (by kernel_rfl) rfl #[.slice A0 l0.length c0] rfl (by (try simp only [List.map_toArray, List.map_cons, List.map_nil]); first | done | rfl | (simp only [List.length_drop, List.length_take]; rfl)) ?_; (with_reducible refine (spec_DrawSplitParts.calls k _ _ l0 t224 t225 _ ?side1 ?side2 A3.out).mono ?_); (case side1 => repeat (first | exact HR0.out | (with_reducible refine Kd.C_alloc ?_ _) | (with_reducible refine Kd.C_drewN ?_ _) | (with_reducible refine Kd.C_drew ?_))); (case side2 => exact HC0.out); rintro e w7 ⟨v226, rfl, ho0, hb⟩; refine ⟨_, rfl, ?_⟩; have n0_ := Aside0.mk (Kd.R_lower ho0 (below_size (by repeat (first | (with_reducible first | exact HB.out | apply below_alloc | apply pw_below_drewN | apply below_drew1) | exact HB.out)))); have n1_ := Aside0.mk (below_step (by repeat (first | (with_reducible first | exact HB.out | apply below_alloc | apply pw_below_drewN | apply below_drew1) | exact HB.out)) hb); clear HB; have HO227 := n0_; have HB := n1_; clear n0_ n1_; (try clear hb); (try clear hb2); (try clear hk); (try clear hi); (try clear ho0); obtain ⟨Ao8, co8, eo8⟩ := Kd.R_slice HO227.out; subst eo8) | ((with_reducible refine gate_callee (f := 26) rfl ?_); refine goesL_ (some 23) rfl rfl Try.func26 (by kernel_rfl) rfl #[.slice Ao8 t224.length co8, .string t225] rfl (by (try simp only [List.map_toArray, List.map_cons, List.map_nil]); first | done | rfl | (simp only [List.length_drop, List.length_take]; rfl)) ?_; (with_reducible refine (impl_SplitParts.calls k _ _ t224 t225 t228 t229 _ ?side1 ?side2 A4.out).mono ?_); (case side1 => repeat (first | exact (Kd.R_reads' HO227.out).2.2 | (with_reducible refine Kd.C_alloc ?_ _) | (with_reducible refine Kd.C_drewN ?_ _) | (with_reducible refine Kd.C_drew ?_))); (case side2 => exact (Kd.R_reads' HO227.out).2.1); rintro e w9 ⟨v230, rfl, ho0, hb⟩; refine ⟨_, rfl, ?_⟩; have n0_ := Aside0.mk (Kd.R_below (by (with_reducible repeat (first | apply Kd.R_alloc | apply Kd.R_drewN | apply Kd.R_drew)); exact HO227.out) hb); have n1_ := Aside0.mk (Kd.S_lower (Kd.S_new' ho0 (Kd.R_lt (by (with_reducible repeat (first | apply Kd.R_alloc | apply Kd.R_drewN | apply Kd.R_drew)); exact HO227.out))) (below_size (by repeat (first | (with_reducible first | exact HB.out | apply below_alloc | apply pw_below_drewN | apply below_drew1) | exact HB.out)))); have n2_ := Aside0.mk (below_step (by repeat (first | (with_reducible first | exact HB.out | apply below_alloc | apply pw_below_drewN | apply below_drew1) | exact HB.out)) hb); clear HO227; clear HB; have HO227 := n0_; have HO231 := n1_; have HB := n2_; clear n0_ n1_ n2_; (try clear hb); (try clear hb2); (try clear hk); (try clear hi); (try clear ho0)) | ((with_reducible refine gate_callee (f := 27) rfl ?_); refine goesL_ (some 29) rfl rfl Try.func27 (by kernel_rfl) rfl #[.slice Ao8 t224.length co8, .string t225] rfl (by (try simp only [List.map_toArray, List.map_cons, List.map_nil]); first | done | rfl | (simp only [List.length_drop, List.length_take]; rfl)) ?_; (with_reducible refine (spec_SplitParts.calls k _ _ t224 t225 t232 t233 _ ?side1 ?side2 A5.out).mono ?_); (case side1 => repeat (first | exact (Kd.R_reads' HO227.out).2.2 | (with_reducible refine Kd.C_alloc ?_ _) | (with_reducible refine Kd.C_drewN ?_ _) | (with_reducible refine Kd.C_drew ?_))); (case side2 => exact (Kd.R_reads' HO227.out).2.1); rintro e w10 ⟨v234, rfl, ho0, hb⟩; refine ⟨_, rfl, ?_⟩; have n0_ := Aside0.mk (Kd.R_below (by (with_reducible repeat (first | apply Kd.R_alloc | apply Kd.R_drewN | apply Kd.R_drew)); exact HO227.out) hb); have n1_ := Aside0.mk (Kd.S_elder' (by (with_reducible repeat (first | apply Kd.S_alloc | apply Kd.S_drewN | apply Kd.S_drew)); exact HO231.out) (Kd.S_base ho0) hb); have n2_ := Aside0.mk (Kd.S_lower (Kd.S_new' (Kd.S_new' ho0 (Kd.R_lt (by (with_reducible repeat (first | apply Kd.R_alloc | apply Kd.R_drewN | apply Kd.R_drew)); exact HO227.out))) (Kd.S_lt (by (with_reducible repeat (first | apply Kd.S_alloc | apply Kd.S_drewN | apply Kd.S_drew)); exact HO231.out))) (below_size (by repeat (first | (with_reducible first | exact HB.out | apply below_alloc | apply pw_below_drewN | apply below_drew1) | exact HB.out)))); have n3_ := Aside0.mk (below_step (by repeat (first | (with_reducible first | exact HB.out | apply below_alloc | apply pw_below_drewN | apply below_drew1) | exact HB.out)) hb); clear HO227; clear HO231; clear HB; have HO227 := n0_; have HO231 := n1_; have HO235 := n2_; have HB := n3_; clear n0_ n1_ n2_ n3_; (try clear hb); (try clear hb2); (try clear hk); (try clear hi); (try clear ho0)))
    (try simp only [Act.put, List.setIfInBounds_toArray, List.set_cons_zero, List.set_cons_succ])
    go_cut [45] (fun v45 wc => ∃ (kq : Nat) (x45_5 : Bool), v45 = .bool x45_5 ∧ Aside0 (laws_FnSplitLines.j0 kq t224 t225 t228 t229 t232 t233 x45_5 = some r) ∧ Aside0 (kq ≤ k) ∧ Aside0 (Kd.R Kd.string 9 wc w.heap.size (fun _ => True) (.slice Ao8 t224.length co8) t224) ∧ Aside0 (Kd.S (Kd.slice 9 Kd.string) 22 wc w.heap.size (fun k_ => some k_ ≠ ((.slice Ao8 t224.length co8) : Value).ownBlock ∧ some k_ ≠ (v234 : Value).ownBlock) v230 t228) ∧ Aside0 (Kd.S (Kd.slice 9 Kd.string) 22 wc w.heap.size (fun k_ => some k_ ≠ ((.slice Ao8 t224.length co8) : Value).ownBlock ∧ some k_ ≠ (v230 : Value).ownBlock) v234 t232) ∧ Aside0 (Below w.heap.size w wc))
    case first =>
      have H := HC6.out
      clear HC6
      by_cases c11 : (t228.length : Int) = (t232.length : Int)
      · rw [if_pos c11] at H
        have c11b0 : ((t228.length : Int) == (t232.length : Int)) = true := beq_iff_eq.mpr c11
        have c11b1 : ((t228.length : Int) != (t232.length : Int)) = false := bne_eq_false_iff_eq.mpr c11
        have c11b2 : (t228.length == t232.length) = true := by first | simpa using c11 | (simp at c11 ⊢; omega)
        clear c11
        (first | rw [c11b0] | (simp only [i64_w, i32_w]; rw [c11b0]) | skip)
        by_cases c12 : (t229 != t233) = true
        · rw [if_pos c12] at H
          have c12b0 : (t229 != t233) = true := c12
          (try (have c12b1 : decide (t229 = t233) = false := by simpa using c12))
          (try (have c12b2 : (t229 == t233) = false := by simpa using c12))
          (try (have c12b3 : ¬ (t229 = t233) := by simpa using c12))
          clear c12
          have H' := Aside0.mk H
          clear H
          obtain ⟨Ao13, co13, eo13⟩ := Kd.S_slice HO231.out
          subst eo13
          obtain ⟨Ao14, co14, eo14⟩ := Kd.S_slice HO235.out
          subst eo14
          go_wp2
          go_meet
          case rel => exact ⟨_, (true), (by first | rfl | (simp; done) | (simp [*]; done)), H', ⟨by first | omega | exact Nat.le_refl _⟩, ⟨by (with_reducible repeat (first | apply Kd.R_alloc | apply Kd.R_drewN | apply Kd.R_drew)); exact HO227.out⟩, ⟨by (with_reducible repeat (first | apply Kd.S_alloc | apply Kd.S_drewN | apply Kd.S_drew)); exact Kd.S_mono HO231.out (fun _ hk => ⟨hk.1.2, hk.2⟩)⟩, ⟨by (with_reducible repeat (first | apply Kd.S_alloc | apply Kd.S_drewN | apply Kd.S_drew)); exact Kd.S_mono HO235.out (fun _ hk => ⟨hk.1.2, hk.2⟩)⟩, ⟨by repeat (first | (with_reducible first | exact HB.out | apply below_alloc | apply pw_below_drewN | apply below_drew1) | exact HB.out)⟩⟩
        · rw [if_neg c12] at H
          have c12b0 : (t229 != t233) = false := by simpa using c12
          (try (have c12b1 : decide (t229 = t233) = true := by simpa using c12))
          (try (have c12b2 : (t229 == t233) = true := by simpa using c12))
          clear c12
          have H' := Aside0.mk H
          clear H
          obtain ⟨Ao15, co15, eo15⟩ := Kd.S_slice HO231.out
          subst eo15
          obtain ⟨Ao16, co16, eo16⟩ := Kd.S_slice HO235.out
          subst eo16
          go_wp2
          go_meet
          case rel => exact ⟨_, (!t229), (by first | rfl | (simp; done) | (simp [*]; done)), H', ⟨by first | omega | exact Nat.le_refl _⟩, ⟨by (with_reducible repeat (first | apply Kd.R_alloc | apply Kd.R_drewN | apply Kd.R_drew)); exact HO227.out⟩, ⟨by (with_reducible repeat (first | apply Kd.S_alloc | apply Kd.S_drewN | apply Kd.S_drew)); exact Kd.S_mono HO231.out (fun _ hk => ⟨hk.1.2, hk.2⟩)⟩, ⟨by (with_reducible repeat (first | apply Kd.S_alloc | apply Kd.S_drewN | apply Kd.S_drew)); exact Kd.S_mono HO235.out (fun _ hk => ⟨hk.1.2, hk.2⟩)⟩, ⟨by repeat (first | (with_reducible first | exact HB.out | apply below_alloc | apply pw_below_drewN | apply below_drew1) | exact HB.out)⟩⟩
      · rw [if_neg c11] at H
        have c11b0 : ((t228.length : Int) == (t232.length : Int)) = false := beq_eq_false_iff_ne.mpr c11
        have c11b1 : ((t228.length : Int) != (t232.length : Int)) = true := bne_iff_ne.mpr c11
        have c11b2 : (t228.length == t232.length) = false := by first | simpa using c11 | (simp at c11 ⊢; omega)
        (first | rw [c11b0] | (simp only [i64_w, i32_w]; rw [c11b0]) | skip)
        have H' := Aside0.mk H
        clear H
        obtain ⟨Ao17, co17, eo17⟩ := Kd.S_slice HO231.out
        subst eo17
        obtain ⟨Ao18, co18, eo18⟩ := Kd.S_slice HO235.out
        subst eo18
        go_wp2
        go_meet
        case rel => exact ⟨_, (true), (by first | rfl | (simp; done) | (simp [*]; done)), H', ⟨by first | omega | exact Nat.le_refl _⟩, ⟨by (with_reducible repeat (first | apply Kd.R_alloc | apply Kd.R_drewN | apply Kd.R_drew)); exact HO227.out⟩, ⟨by (with_reducible repeat (first | apply Kd.S_alloc | apply Kd.S_drewN | apply Kd.S_drew)); exact Kd.S_mono HO231.out (fun _ hk => ⟨hk.1.2, hk.2⟩)⟩, ⟨by (with_reducible repeat (first | apply Kd.S_alloc | apply Kd.S_drewN | apply Kd.S_drew)); exact Kd.S_mono HO235.out (fun _ hk => ⟨hk.1.2, hk.2⟩)⟩, ⟨by repeat (first | (with_reducible first | exact HB.out | apply below_alloc | apply pw_below_drewN | apply below_drew1) | exact HB.out)⟩⟩
    case rest =>
      clear HC6
      try clear c1
      try clear c2
      try clear c2b0
      try clear c2b1
      try clear p2
      try clear c5
      try clear c11
      try clear c11b0
      try clear c11b1
      try clear c11b2
      try clear c12
      try clear c12b0
      try clear c12b1
      try clear c12b2
      obtain ⟨kq, x45_5, rfl, HA, HJ5, HO_3, HO_5, HO_7, HB⟩ := hcut
      cases kq with
      | zero => exact absurd HA.out (by simp [laws_FnSplitLines.j0])
      | succ kj5 =>
        have H := HA.out
        clear HA
        simp only [laws_FnSplitLines.j0] at H
        by_cases c19 : x45_5 = true
        · subst c19
          have H1 : (if (t228.length : Int) = (t232.length : Int) then (some (t229 == t233)) else (some false)) = some r := by rw [if_pos rfl] at H; exact H
          clear H
          have H := H1
          clear H1
          by_cases c20 : (t228.length : Int) = (t232.length : Int)
          · rw [if_pos c20] at H
            have c20b0 : ((t228.length : Int) == (t232.length : Int)) = true := beq_iff_eq.mpr c20
            have c20b1 : ((t228.length : Int) != (t232.length : Int)) = false := bne_eq_false_iff_eq.mpr c20
            have c20b2 : (t228.length == t232.length) = true := by first | simpa using c20 | (simp at c20 ⊢; omega)
            clear c20
            obtain rfl := Option.some.inj H
            obtain ⟨Ao21, co21, eo21⟩ := Kd.S_slice HO_5.out
            subst eo21
            obtain ⟨Ao22, co22, eo22⟩ := Kd.S_slice HO_7.out
            subst eo22
            go_wp2
            go_ret
            exact ⟨by first | rfl | (simp [errW_none, errW_some] <;> rfl) | (simp [*, errW_none, errW_some] <;> rfl), by repeat (first | (with_reducible first | exact HB.out | apply below_alloc | apply pw_below_drewN | apply below_drew1) | exact HB.out)⟩
          · rw [if_neg c20] at H
            have c20b0 : ((t228.length : Int) == (t232.length : Int)) = false := beq_eq_false_iff_ne.mpr c20
            have c20b1 : ((t228.length : Int) != (t232.length : Int)) = true := bne_iff_ne.mpr c20
            have c20b2 : (t228.length == t232.length) = false := by first | simpa using c20 | (simp at c20 ⊢; omega)
            obtain rfl := Option.some.inj H
            obtain ⟨Ao23, co23, eo23⟩ := Kd.S_slice HO_5.out
            subst eo23
            obtain ⟨Ao24, co24, eo24⟩ := Kd.S_slice HO_7.out
            subst eo24
            go_wp2
            go_ret
            exact ⟨by first | rfl | (simp [errW_none, errW_some] <;> rfl) | (simp [*, errW_none, errW_some] <;> rfl), by repeat (first | (with_reducible first | exact HB.out | apply below_alloc | apply pw_below_drewN | apply below_drew1) | exact HB.out)⟩
        · replace c19 := Bool.eq_false_iff.mpr c19
          subst c19
          have H1 : (laws_FnSplitLines.l0 kj5 t224 t225 t228 (wrap64 ((t228.length : Int) + 1)) 0) = some r := by rw [if_neg (show ¬ (false = true) by decide)] at H; exact H
          clear H
          have H := H1
          clear H1
          have H' := Aside0.mk H
          clear H
          obtain ⟨Ao25, co25, eo25⟩ := Kd.S_slice HO_5.out
          subst eo25
          go_wp2
          go_loopg [9, 10] kj5 (fun kq v9 v10 w' => ∃ (x9_2 : Int) (x10_2 : Int), v9 = .int .i64 x9_2 ∧ v10 = .int .i64 x10_2 ∧ Aside0 (laws_FnSplitLines.l0 kq t224 t225 t228 x9_2 x10_2 = some r) ∧ Aside0 (kq ≤ kj5) ∧ Aside0 (Kd.R Kd.string 9 w' w.heap.size (fun _ => True) (.slice Ao8 t224.length co8) t224) ∧ Aside0 (Kd.S (Kd.slice 9 Kd.string) 22 w' w.heap.size (fun k_ => some k_ ≠ ((.slice Ao8 t224.length co8) : Value).ownBlock) (.slice Ao25 t228.length co25) t228) ∧ Aside0 (Below w.heap.size w w'))
          case atStart => exact ⟨(wrap64 ((t228.length : Int) + 1)), (0), (by first | rfl | (simp; done) | (simp [*]; done)), (by first | rfl | (simp; done) | (simp [*]; done)), H', ⟨Nat.le_refl _⟩, ⟨by (with_reducible repeat (first | apply Kd.R_alloc | apply Kd.R_drewN | apply Kd.R_drew)); exact HO_3.out⟩, ⟨by (with_reducible repeat (first | apply Kd.S_alloc | apply Kd.S_drewN | apply Kd.S_drew)); exact Kd.S_mono HO_5.out (fun _ hk => hk.1)⟩, ⟨by repeat (first | (with_reducible first | exact HB.out | apply below_alloc | apply pw_below_drewN | apply below_drew1) | exact HB.out)⟩⟩
          case round =>
            clear H'
            try clear c1
            try clear c2
            try clear c2b0
            try clear c2b1
            try clear p2
            try clear c5
            try clear p6
            try clear c11
            try clear c11b0
            try clear c11b1
            try clear c11b2
            try clear c12
            try clear c12b0
            try clear c12b1
            try clear c12b2
            try clear c19
            try clear c20
            try clear c20b0
            try clear c20b1
            try clear c20b2
            try clear c25
            try clear p2
            obtain ⟨x9_2, x10_2, rfl, rfl, HA, HK2, HO_3, HO_5, HB⟩ := hrel
            cases gk with
            | zero => exact absurd HA.out (by simp [laws_FnSplitLines.l0])
            | succ k2 =>
              have H := HA.out
              clear HA
              simp only [laws_FnSplitLines.l0] at H
              by_cases c26 : x10_2 < (t228.length : Int)
              · rw [if_pos c26] at H
                have c26b0 : decide (x10_2 < (t228.length : Int)) = true := decide_eq_true c26
                clear c26
                by_cases c27 : 0 ≤ x10_2
                · rw [if_pos c27] at H
                  have c27b0 : decide (0 ≤ x10_2) = true := decide_eq_true c27
                  clear c27
                  have H' := Aside0.mk H
                  clear H
                  have p236 : 0 ≤ (x10_2 : Int) := of_decide_eq_true (by first | (with_reducible assumption) | assumption)
                  have q236 : x10_2 < (t228.length : Int) := of_decide_eq_true (by first | (with_reducible assumption) | assumption)
                  obtain ⟨ad236, A236_0, c236_0, e236, hx236_0, hl236_0, hi236_0⟩ := at_L3 (Kd.S_reads' HO_5.out).2.2 x10_2 p236 q236
                  cases e236
                  obtain ⟨ce236, hce236, hMe236, hcc236⟩ := Kd.S_get HO_5.out [] x10_2 p236 (by first | exact q236 | exact of_decide_eq_true (by first | (with_reducible assumption) | assumption) | (have e_ := (Kd.S_reads' HO_5.out).1; omega))
                  obtain ⟨ve236_0, rfl, ge236_0⟩ := hMe236
                  have hv236_0 := hcc236 0 _ rfl
                  rw [Nat.add_zero, show ((Kd.slice 9 Kd.string)).sz = 1 from rfl, Nat.mul_one] at hv236_0
                  replace hv236_0 := Option.some.inj (hv236_0.symm.trans hx236_0)
                  rw [hv236_0] at ge236_0
                  have HL236_0 := Aside0.mk (show Kd.R Kd.string 9 _ _ _ _ (rd_L3 t228 x10_2) from ge236_0)
                  clear hv236_0 ge236_0
                  clear hcc236 hce236
                  have HR236_0 := Aside0.mk hi236_0
                  have HC236_0 := Aside0.mk hl236_0
                  clear hi236_0 hl236_0
                  replace p236 := eq_true p236
                  replace q236 := eq_true q236
                  go_wp2
                  go_loopg [11] k2 (fun kq v11 w' => ∃ (x11_3 : Int), v11 = .int .i64 x11_3 ∧ Aside0 (laws_FnSplitLines.l1 kq t224 t225 t228 (wrap64 (x9_2 + ((rd_L3 t228 x10_2).length : Int))) x10_2 x11_3 = some r) ∧ Aside0 (kq ≤ k2) ∧ Aside0 (Kd.R Kd.string 9 w' w.heap.size (fun _ => True) (.slice Ao8 t224.length co8) t224) ∧ Aside0 (Kd.S (Kd.slice 9 Kd.string) 22 w' w.heap.size (fun k_ => some k_ ≠ ((.slice Ao8 t224.length co8) : Value).ownBlock) (.slice (some ad236) t228.length co25) t228) ∧ Aside0 (Kd.C Kd.string w' A236_0 (rd_L3 t228 x10_2).length (rd_L3 t228 x10_2)) ∧ Aside0 (Below w.heap.size w w'))
                  case atStart => exact ⟨(0), (by first | rfl | (simp; done) | (simp [*]; done)), H', ⟨Nat.le_refl _⟩, ⟨by (with_reducible repeat (first | apply Kd.R_alloc | apply Kd.R_drewN | apply Kd.R_drew)); exact HO_3.out⟩, ⟨by (with_reducible repeat (first | apply Kd.S_alloc | apply Kd.S_drewN | apply Kd.S_drew)); exact HO_5.out⟩, ⟨by repeat (first | (with_reducible exact HR236_0.out) | (with_reducible refine Kd.C_alloc ?_ _) | (with_reducible refine Kd.C_drewN ?_ _) | (with_reducible refine Kd.C_drew ?_) | exact HR236_0.out)⟩, ⟨by repeat (first | (with_reducible first | exact HB.out | apply below_alloc | apply pw_below_drewN | apply below_drew1) | exact HB.out)⟩⟩
                  case round =>
                    clear H'
                    try clear c1
                    try clear c2
                    try clear c2b0
                    try clear c2b1
                    try clear p2
                    try clear q2
                    try clear hx2
                    try clear c5
                    try clear p6
                    try clear c11
                    try clear c11b0
                    try clear c11b1
                    try clear c11b2
                    try clear c12
                    try clear c12b0
                    try clear c12b1
                    try clear c12b2
                    try clear c19
                    try clear c20
                    try clear c20b0
                    try clear c20b1
                    try clear c20b2
                    try clear c23
                    try clear p23
                    try clear q23
                    try clear hx23
                    try clear c25
                    try clear c26
                    try clear c26b0
                    try clear c27
                    try clear c27b0
                    try clear hx236_0
                    try clear p2
                    try clear p236
                    try clear p6
                    try clear q236
                    obtain ⟨x11_3, rfl, HA, HK3, HO_3, HO_5, HR236_0, HB⟩ := hrel
                    cases gk with
                    | zero => exact absurd HA.out (by simp [laws_FnSplitLines.l1])
                    | succ k3 =>
                      have H := HA.out
                      clear HA
                      simp only [laws_FnSplitLines.l1] at H
                      by_cases c28 : 0 ≤ x10_2
                      · rw [if_pos c28] at H
                        have c28b0 : decide (0 ≤ x10_2) = true := decide_eq_true c28
                        clear c28
                        by_cases c29 : x10_2 < (t228.length : Int)
                        · rw [if_pos c29] at H
                          have c29b0 : decide (x10_2 < (t228.length : Int)) = true := decide_eq_true c29
                          clear c29
                          by_cases c30 : x11_3 < ((rd_L3 t228 x10_2).length : Int)
                          · rw [if_pos c30] at H
                            have c30b0 : decide (x11_3 < ((rd_L3 t228 x10_2).length : Int)) = true := decide_eq_true c30
                            clear c30
                            by_cases c31 : 0 ≤ x11_3
                            · rw [if_pos c31] at H
                              have c31b0 : decide (0 ≤ x11_3) = true := decide_eq_true c31
                              clear c31
                              by_cases c32 : 2 + t225.size ≤ 9223372036854775807
                              · rw [if_pos c32] at H
                                have c32b0 := eq_true c32
                                have c32b1 : decide (2 + t225.size ≤ 9223372036854775807) = true := decide_eq_true c32
                                try have c32b2 : (9223372036854775807 < 2 + t225.size) = False := eq_false (Nat.not_lt.2 c32)
                                by_cases c33 : (rdOf ByteArray.empty (rd_L3 t228 x10_2) x11_3).toList = ((⟨#[45, 45]⟩ : ByteArray) ++ t225).toList
                                · rw [if_pos c33] at H
                                  have c33b0 : ((rdOf ByteArray.empty (rd_L3 t228 x10_2) x11_3).toList == ((⟨#[45, 45]⟩ : ByteArray) ++ t225).toList) = true := beq_iff_eq.mpr c33
                                  have c33b1 : ((rdOf ByteArray.empty (rd_L3 t228 x10_2) x11_3).toList != ((⟨#[45, 45]⟩ : ByteArray) ++ t225).toList) = false := bne_eq_false_iff_eq.mpr c33
                                  clear c33
                                  obtain rfl := Option.some.inj H
                                  have p237 : 0 ≤ (x10_2 : Int) := of_decide_eq_true (by first | (with_reducible assumption) | assumption)
                                  have q237 : x10_2 < (t228.length : Int) := of_decide_eq_true (by first | (with_reducible assumption) | assumption)
                                  obtain ⟨ad237, A237_0, c237_0, e237, hx237_0, hl237_0, hi237_0⟩ := at_L3 (Kd.S_reads' HO_5.out).2.2 x10_2 p237 q237
                                  obtain rfl : ad236 = ad237 := (by injection e237)
                                  obtain ⟨ce237, hce237, hMe237, hcc237⟩ := Kd.S_get HO_5.out [] x10_2 p237 (by first | exact q237 | exact of_decide_eq_true (by first | (with_reducible assumption) | assumption) | (have e_ := (Kd.S_reads' HO_5.out).1; omega))
                                  obtain ⟨ve237_0, rfl, ge237_0⟩ := hMe237
                                  have hv237_0 := hcc237 0 _ rfl
                                  rw [Nat.add_zero, show ((Kd.slice 9 Kd.string)).sz = 1 from rfl, Nat.mul_one] at hv237_0
                                  replace hv237_0 := Option.some.inj (hv237_0.symm.trans hx237_0)
                                  rw [hv237_0] at ge237_0
                                  have HL237_0 := Aside0.mk (show Kd.R Kd.string 9 _ _ _ _ (rd_L3 t228 x10_2) from ge237_0)
                                  clear hv237_0 ge237_0
                                  clear hcc237 hce237
                                  have HR237_0 := Aside0.mk hi237_0
                                  have HC237_0 := Aside0.mk hl237_0
                                  clear hi237_0 hl237_0
                                  replace p237 := eq_true p237
                                  replace q237 := eq_true q237
                                  have p238 : 0 ≤ (x10_2 : Int) := of_decide_eq_true (by first | (with_reducible assumption) | assumption)
                                  have q238 : x10_2 < (t228.length : Int) := of_decide_eq_true (by first | (with_reducible assumption) | assumption)
                                  obtain ⟨ad238, A238_0, c238_0, e238, hx238_0, hl238_0, hi238_0⟩ := at_L3 (Kd.S_reads' HO_5.out).2.2 x10_2 p238 q238
                                  obtain rfl : ad236 = ad238 := (by injection e238)
                                  obtain ⟨ce238, hce238, hMe238, hcc238⟩ := Kd.S_get HO_5.out [] x10_2 p238 (by first | exact q238 | exact of_decide_eq_true (by first | (with_reducible assumption) | assumption) | (have e_ := (Kd.S_reads' HO_5.out).1; omega))
                                  obtain ⟨ve238_0, rfl, ge238_0⟩ := hMe238
                                  have hv238_0 := hcc238 0 _ rfl
                                  rw [Nat.add_zero, show ((Kd.slice 9 Kd.string)).sz = 1 from rfl, Nat.mul_one] at hv238_0
                                  replace hv238_0 := Option.some.inj (hv238_0.symm.trans hx238_0)
                                  rw [hv238_0] at ge238_0
                                  have HL238_0 := Aside0.mk (show Kd.R Kd.string 9 _ _ _ _ (rd_L3 t228 x10_2) from ge238_0)
                                  clear hv238_0 ge238_0
                                  clear hcc238 hce238
                                  have HR238_0 := Aside0.mk hi238_0
                                  have HC238_0 := Aside0.mk hl238_0
                                  clear hi238_0 hl238_0
                                  replace p238 := eq_true p238
                                  replace q238 := eq_true q238
                                  have ea_ := Option.some.inj (hx237_0.symm.trans hx238_0)
                                  injection ea_ with ea_ en_ ec_
                                  subst ea_
                                  subst ec_
                                  clear en_
                                  have p239 : 0 ≤ (x11_3 : Int) := of_decide_eq_true (by first | (with_reducible assumption) | assumption)
                                  have q239 : x11_3 < ((rd_L3 t228 x10_2).length : Int) := of_decide_eq_true (by first | (with_reducible assumption) | assumption)
                                  obtain ⟨ad239, e239, hx239_0⟩ := Kd.at_string (by repeat (first | (with_reducible exact HR238_0.out) | (with_reducible refine Kd.C_alloc ?_ _) | (with_reducible refine Kd.C_drewN ?_ _) | (with_reducible refine Kd.C_drew ?_) | exact HR238_0.out)) x11_3 p239 q239
                                  cases e239
                                  replace p239 := eq_true p239
                                  replace q239 := eq_true q239
                                  go_wp2
                                  go_ret
                                  exact ⟨by first | rfl | (simp [errW_none, errW_some] <;> rfl) | (simp [*, errW_none, errW_some] <;> rfl), by repeat (first | (with_reducible first | exact HB.out | apply below_alloc | apply pw_below_drewN | apply below_drew1) | exact HB.out)⟩
                                · rw [if_neg c33] at H
                                  have c33b0 : ((rdOf ByteArray.empty (rd_L3 t228 x10_2) x11_3).toList == ((⟨#[45, 45]⟩ : ByteArray) ++ t225).toList) = false := beq_eq_false_iff_ne.mpr c33
                                  have c33b1 : ((rdOf ByteArray.empty (rd_L3 t228 x10_2) x11_3).toList != ((⟨#[45, 45]⟩ : ByteArray) ++ t225).toList) = true := bne_iff_ne.mpr c33
                                  by_cases c34 : ((⟨#[45, 45]⟩ : ByteArray) ++ t225).size + 2 ≤ 9223372036854775807
                                  · rw [if_pos c34] at H
                                    have c34b0 := eq_true c34
                                    have c34b1 : decide (((⟨#[45, 45]⟩ : ByteArray) ++ t225).size + 2 ≤ 9223372036854775807) = true := decide_eq_true c34
                                    try have c34b3 : (9223372036854775807 < 2 + t225.size + 2) = False := by have h_ := (eq_false (Nat.not_lt.2 c34) : (9223372036854775807 < ((⟨#[45, 45]⟩ : ByteArray) ++ t225).size + 2) = False); simp only [ByteArray.size_append] at h_; exact h_
                                    try have c34b2 : (9223372036854775807 < ((⟨#[45, 45]⟩ : ByteArray) ++ t225).size + 2) = False := eq_false (Nat.not_lt.2 c34)
                                    by_cases c35 : (rdOf ByteArray.empty (rd_L3 t228 x10_2) x11_3).toList = (((⟨#[45, 45]⟩ : ByteArray) ++ t225) ++ (⟨#[45, 45]⟩ : ByteArray)).toList
                                    · rw [if_pos c35] at H
                                      have c35b0 : ((rdOf ByteArray.empty (rd_L3 t228 x10_2) x11_3).toList == (((⟨#[45, 45]⟩ : ByteArray) ++ t225) ++ (⟨#[45, 45]⟩ : ByteArray)).toList) = true := beq_iff_eq.mpr c35
                                      have c35b1 : ((rdOf ByteArray.empty (rd_L3 t228 x10_2) x11_3).toList != (((⟨#[45, 45]⟩ : ByteArray) ++ t225) ++ (⟨#[45, 45]⟩ : ByteArray)).toList) = false := bne_eq_false_iff_eq.mpr c35
                                      clear c35
                                      obtain rfl := Option.some.inj H
                                      have p237 : 0 ≤ (x10_2 : Int) := of_decide_eq_true (by first | (with_reducible assumption) | assumption)
                                      have q237 : x10_2 < (t228.length : Int) := of_decide_eq_true (by first | (with_reducible assumption) | assumption)
                                      obtain ⟨ad237, A237_0, c237_0, e237, hx237_0, hl237_0, hi237_0⟩ := at_L3 (Kd.S_reads' HO_5.out).2.2 x10_2 p237 q237
                                      obtain rfl : ad236 = ad237 := (by injection e237)
                                      obtain ⟨ce237, hce237, hMe237, hcc237⟩ := Kd.S_get HO_5.out [] x10_2 p237 (by first | exact q237 | exact of_decide_eq_true (by first | (with_reducible assumption) | assumption) | (have e_ := (Kd.S_reads' HO_5.out).1; omega))
                                      obtain ⟨ve237_0, rfl, ge237_0⟩ := hMe237
                                      have hv237_0 := hcc237 0 _ rfl
                                      rw [Nat.add_zero, show ((Kd.slice 9 Kd.string)).sz = 1 from rfl, Nat.mul_one] at hv237_0
                                      replace hv237_0 := Option.some.inj (hv237_0.symm.trans hx237_0)
                                      rw [hv237_0] at ge237_0
                                      have HL237_0 := Aside0.mk (show Kd.R Kd.string 9 _ _ _ _ (rd_L3 t228 x10_2) from ge237_0)
                                      clear hv237_0 ge237_0
                                      clear hcc237 hce237
                                      have HR237_0 := Aside0.mk hi237_0
                                      have HC237_0 := Aside0.mk hl237_0
                                      clear hi237_0 hl237_0
                                      replace p237 := eq_true p237
                                      replace q237 := eq_true q237
                                      have p238 : 0 ≤ (x10_2 : Int) := of_decide_eq_true (by first | (with_reducible assumption) | assumption)
                                      have q238 : x10_2 < (t228.length : Int) := of_decide_eq_true (by first | (with_reducible assumption) | assumption)
                                      obtain ⟨ad238, A238_0, c238_0, e238, hx238_0, hl238_0, hi238_0⟩ := at_L3 (Kd.S_reads' HO_5.out).2.2 x10_2 p238 q238
                                      obtain rfl : ad236 = ad238 := (by injection e238)
                                      obtain ⟨ce238, hce238, hMe238, hcc238⟩ := Kd.S_get HO_5.out [] x10_2 p238 (by first | exact q238 | exact of_decide_eq_true (by first | (with_reducible assumption) | assumption) | (have e_ := (Kd.S_reads' HO_5.out).1; omega))
                                      obtain ⟨ve238_0, rfl, ge238_0⟩ := hMe238
                                      have hv238_0 := hcc238 0 _ rfl
                                      rw [Nat.add_zero, show ((Kd.slice 9 Kd.string)).sz = 1 from rfl, Nat.mul_one] at hv238_0
                                      replace hv238_0 := Option.some.inj (hv238_0.symm.trans hx238_0)
                                      rw [hv238_0] at ge238_0
                                      have HL238_0 := Aside0.mk (show Kd.R Kd.string 9 _ _ _ _ (rd_L3 t228 x10_2) from ge238_0)
                                      clear hv238_0 ge238_0
                                      clear hcc238 hce238
                                      have HR238_0 := Aside0.mk hi238_0
                                      have HC238_0 := Aside0.mk hl238_0
                                      clear hi238_0 hl238_0
                                      replace p238 := eq_true p238
                                      replace q238 := eq_true q238
                                      have ea_ := Option.some.inj (hx237_0.symm.trans hx238_0)
                                      injection ea_ with ea_ en_ ec_
                                      subst ea_
                                      subst ec_
                                      clear en_
                                      have p239 : 0 ≤ (x11_3 : Int) := of_decide_eq_true (by first | (with_reducible assumption) | assumption)
                                      have q239 : x11_3 < ((rd_L3 t228 x10_2).length : Int) := of_decide_eq_true (by first | (with_reducible assumption) | assumption)
                                      obtain ⟨ad239, e239, hx239_0⟩ := Kd.at_string (by repeat (first | (with_reducible exact HR238_0.out) | (with_reducible refine Kd.C_alloc ?_ _) | (with_reducible refine Kd.C_drewN ?_ _) | (with_reducible refine Kd.C_drew ?_) | exact HR238_0.out)) x11_3 p239 q239
                                      cases e239
                                      replace p239 := eq_true p239
                                      replace q239 := eq_true q239
                                      have p240 : 0 ≤ (x10_2 : Int) := of_decide_eq_true (by first | (with_reducible assumption) | assumption)
                                      have q240 : x10_2 < (t228.length : Int) := of_decide_eq_true (by first | (with_reducible assumption) | assumption)
                                      obtain ⟨ad240, A240_0, c240_0, e240, hx240_0, hl240_0, hi240_0⟩ := at_L3 (Kd.S_reads' HO_5.out).2.2 x10_2 p240 q240
                                      obtain rfl : ad236 = ad240 := (by injection e240)
                                      obtain ⟨ce240, hce240, hMe240, hcc240⟩ := Kd.S_get HO_5.out [] x10_2 p240 (by first | exact q240 | exact of_decide_eq_true (by first | (with_reducible assumption) | assumption) | (have e_ := (Kd.S_reads' HO_5.out).1; omega))
                                      obtain ⟨ve240_0, rfl, ge240_0⟩ := hMe240
                                      have hv240_0 := hcc240 0 _ rfl
                                      rw [Nat.add_zero, show ((Kd.slice 9 Kd.string)).sz = 1 from rfl, Nat.mul_one] at hv240_0
                                      replace hv240_0 := Option.some.inj (hv240_0.symm.trans hx240_0)
                                      rw [hv240_0] at ge240_0
                                      have HL240_0 := Aside0.mk (show Kd.R Kd.string 9 _ _ _ _ (rd_L3 t228 x10_2) from ge240_0)
                                      clear hv240_0 ge240_0
                                      clear hcc240 hce240
                                      have HR240_0 := Aside0.mk hi240_0
                                      have HC240_0 := Aside0.mk hl240_0
                                      clear hi240_0 hl240_0
                                      replace p240 := eq_true p240
                                      replace q240 := eq_true q240
                                      have ea_ := Option.some.inj (hx237_0.symm.trans hx240_0)
                                      injection ea_ with ea_ en_ ec_
                                      subst ea_
                                      subst ec_
                                      clear en_
                                      have p241 : 0 ≤ (x11_3 : Int) := of_decide_eq_true (by first | (with_reducible assumption) | assumption)
                                      have q241 : x11_3 < ((rd_L3 t228 x10_2).length : Int) := of_decide_eq_true (by first | (with_reducible assumption) | assumption)
                                      obtain ⟨ad241, e241, hx241_0⟩ := Kd.at_string (by repeat (first | (with_reducible exact HR240_0.out) | (with_reducible refine Kd.C_alloc ?_ _) | (with_reducible refine Kd.C_drewN ?_ _) | (with_reducible refine Kd.C_drew ?_) | exact HR240_0.out)) x11_3 p241 q241
                                      cases e241
                                      replace p241 := eq_true p241
                                      replace q241 := eq_true q241
                                      go_wp2
                                      go_ret
                                      exact ⟨by first | rfl | (simp [errW_none, errW_some] <;> rfl) | (simp [*, errW_none, errW_some] <;> rfl), by repeat (first | (with_reducible first | exact HB.out | apply below_alloc | apply pw_below_drewN | apply below_drew1) | exact HB.out)⟩
                                    · rw [if_neg c35] at H
                                      have c35b0 : ((rdOf ByteArray.empty (rd_L3 t228 x10_2) x11_3).toList == (((⟨#[45, 45]⟩ : ByteArray) ++ t225) ++ (⟨#[45, 45]⟩ : ByteArray)).toList) = false := beq_eq_false_iff_ne.mpr c35
                                      have c35b1 : ((rdOf ByteArray.empty (rd_L3 t228 x10_2) x11_3).toList != (((⟨#[45, 45]⟩ : ByteArray) ++ t225) ++ (⟨#[45, 45]⟩ : ByteArray)).toList) = true := bne_iff_ne.mpr c35
                                      have H' := Aside0.mk H
                                      clear H
                                      have p237 : 0 ≤ (x10_2 : Int) := of_decide_eq_true (by first | (with_reducible assumption) | assumption)
                                      have q237 : x10_2 < (t228.length : Int) := of_decide_eq_true (by first | (with_reducible assumption) | assumption)
                                      obtain ⟨ad237, A237_0, c237_0, e237, hx237_0, hl237_0, hi237_0⟩ := at_L3 (Kd.S_reads' HO_5.out).2.2 x10_2 p237 q237
                                      obtain rfl : ad236 = ad237 := (by injection e237)
                                      obtain ⟨ce237, hce237, hMe237, hcc237⟩ := Kd.S_get HO_5.out [] x10_2 p237 (by first | exact q237 | exact of_decide_eq_true (by first | (with_reducible assumption) | assumption) | (have e_ := (Kd.S_reads' HO_5.out).1; omega))
                                      obtain ⟨ve237_0, rfl, ge237_0⟩ := hMe237
                                      have hv237_0 := hcc237 0 _ rfl
                                      rw [Nat.add_zero, show ((Kd.slice 9 Kd.string)).sz = 1 from rfl, Nat.mul_one] at hv237_0
                                      replace hv237_0 := Option.some.inj (hv237_0.symm.trans hx237_0)
                                      rw [hv237_0] at ge237_0
                                      have HL237_0 := Aside0.mk (show Kd.R Kd.string 9 _ _ _ _ (rd_L3 t228 x10_2) from ge237_0)
                                      clear hv237_0 ge237_0
                                      clear hcc237 hce237
                                      have HR237_0 := Aside0.mk hi237_0
                                      have HC237_0 := Aside0.mk hl237_0
                                      clear hi237_0 hl237_0
                                      replace p237 := eq_true p237
                                      replace q237 := eq_true q237
                                      have p238 : 0 ≤ (x10_2 : Int) := of_decide_eq_true (by first | (with_reducible assumption) | assumption)
                                      have q238 : x10_2 < (t228.length : Int) := of_decide_eq_true (by first | (with_reducible assumption) | assumption)
                                      obtain ⟨ad238, A238_0, c238_0, e238, hx238_0, hl238_0, hi238_0⟩ := at_L3 (Kd.S_reads' HO_5.out).2.2 x10_2 p238 q238
                                      obtain rfl : ad236 = ad238 := (by injection e238)
                                      obtain ⟨ce238, hce238, hMe238, hcc238⟩ := Kd.S_get HO_5.out [] x10_2 p238 (by first | exact q238 | exact of_decide_eq_true (by first | (with_reducible assumption) | assumption) | (have e_ := (Kd.S_reads' HO_5.out).1; omega))
                                      obtain ⟨ve238_0, rfl, ge238_0⟩ := hMe238
                                      have hv238_0 := hcc238 0 _ rfl
                                      rw [Nat.add_zero, show ((Kd.slice 9 Kd.string)).sz = 1 from rfl, Nat.mul_one] at hv238_0
                                      replace hv238_0 := Option.some.inj (hv238_0.symm.trans hx238_0)
                                      rw [hv238_0] at ge238_0
                                      have HL238_0 := Aside0.mk (show Kd.R Kd.string 9 _ _ _ _ (rd_L3 t228 x10_2) from ge238_0)
                                      clear hv238_0 ge238_0
                                      clear hcc238 hce238
                                      have HR238_0 := Aside0.mk hi238_0
                                      have HC238_0 := Aside0.mk hl238_0
                                      clear hi238_0 hl238_0
                                      replace p238 := eq_true p238
                                      replace q238 := eq_true q238
                                      have ea_ := Option.some.inj (hx237_0.symm.trans hx238_0)
                                      injection ea_ with ea_ en_ ec_
                                      subst ea_
                                      subst ec_
                                      clear en_
                                      have p239 : 0 ≤ (x11_3 : Int) := of_decide_eq_true (by first | (with_reducible assumption) | assumption)
                                      have q239 : x11_3 < ((rd_L3 t228 x10_2).length : Int) := of_decide_eq_true (by first | (with_reducible assumption) | assumption)
                                      obtain ⟨ad239, e239, hx239_0⟩ := Kd.at_string (by repeat (first | (with_reducible exact HR238_0.out) | (with_reducible refine Kd.C_alloc ?_ _) | (with_reducible refine Kd.C_drewN ?_ _) | (with_reducible refine Kd.C_drew ?_) | exact HR238_0.out)) x11_3 p239 q239
                                      cases e239
                                      replace p239 := eq_true p239
                                      replace q239 := eq_true q239
                                      have p240 : 0 ≤ (x10_2 : Int) := of_decide_eq_true (by first | (with_reducible assumption) | assumption)
                                      have q240 : x10_2 < (t228.length : Int) := of_decide_eq_true (by first | (with_reducible assumption) | assumption)
                                      obtain ⟨ad240, A240_0, c240_0, e240, hx240_0, hl240_0, hi240_0⟩ := at_L3 (Kd.S_reads' HO_5.out).2.2 x10_2 p240 q240
                                      obtain rfl : ad236 = ad240 := (by injection e240)
                                      obtain ⟨ce240, hce240, hMe240, hcc240⟩ := Kd.S_get HO_5.out [] x10_2 p240 (by first | exact q240 | exact of_decide_eq_true (by first | (with_reducible assumption) | assumption) | (have e_ := (Kd.S_reads' HO_5.out).1; omega))
                                      obtain ⟨ve240_0, rfl, ge240_0⟩ := hMe240
                                      have hv240_0 := hcc240 0 _ rfl
                                      rw [Nat.add_zero, show ((Kd.slice 9 Kd.string)).sz = 1 from rfl, Nat.mul_one] at hv240_0
                                      replace hv240_0 := Option.some.inj (hv240_0.symm.trans hx240_0)
                                      rw [hv240_0] at ge240_0
                                      have HL240_0 := Aside0.mk (show Kd.R Kd.string 9 _ _ _ _ (rd_L3 t228 x10_2) from ge240_0)
                                      clear hv240_0 ge240_0
                                      clear hcc240 hce240
                                      have HR240_0 := Aside0.mk hi240_0
                                      have HC240_0 := Aside0.mk hl240_0
                                      clear hi240_0 hl240_0
                                      replace p240 := eq_true p240
                                      replace q240 := eq_true q240
                                      have ea_ := Option.some.inj (hx237_0.symm.trans hx240_0)
                                      injection ea_ with ea_ en_ ec_
                                      subst ea_
                                      subst ec_
                                      clear en_
                                      have p241 : 0 ≤ (x11_3 : Int) := of_decide_eq_true (by first | (with_reducible assumption) | assumption)
                                      have q241 : x11_3 < ((rd_L3 t228 x10_2).length : Int) := of_decide_eq_true (by first | (with_reducible assumption) | assumption)
                                      obtain ⟨ad241, e241, hx241_0⟩ := Kd.at_string (by repeat (first | (with_reducible exact HR240_0.out) | (with_reducible refine Kd.C_alloc ?_ _) | (with_reducible refine Kd.C_drewN ?_ _) | (with_reducible refine Kd.C_drew ?_) | exact HR240_0.out)) x11_3 p241 q241
                                      cases e241
                                      replace p241 := eq_true p241
                                      replace q241 := eq_true q241
                                      go_wp2
                                      go_roundg k3
                                      case measure => have := HJ5.out; have := HK2.out; have := HK3.out; omega
                                      case rel => exact ⟨(wrap64 (x11_3 + 1)), (by first | rfl | (simp; done) | (simp [*]; done)), H', ⟨by have := HJ5.out; have := HK2.out; have := HK3.out; omega⟩, ⟨by (with_reducible repeat (first | apply Kd.R_alloc | apply Kd.R_drewN | apply Kd.R_drew)); exact HO_3.out⟩, ⟨by (with_reducible repeat (first | apply Kd.S_alloc | apply Kd.S_drewN | apply Kd.S_drew)); exact HO_5.out⟩, ⟨by repeat (first | (with_reducible exact HR236_0.out) | (with_reducible refine Kd.C_alloc ?_ _) | (with_reducible refine Kd.C_drewN ?_ _) | (with_reducible refine Kd.C_drew ?_) | exact HR236_0.out)⟩, ⟨by repeat (first | (with_reducible first | exact HB.out | apply below_alloc | apply pw_below_drewN | apply below_drew1) | exact HB.out)⟩⟩
                                  · rw [if_neg c34] at H
                                    exact absurd H (by simp)
                              · rw [if_neg c32] at H
                                exact absurd H (by simp)
                            · rw [if_neg c31] at H
                              exact absurd H (by simp)
                          · rw [if_neg c30] at H
                            have c30b0 : decide (x11_3 < ((rd_L3 t228 x10_2).length : Int)) = false := decide_eq_false c30
                            clear c30
                            have H' := Aside0.mk H
                            clear H
                            have p237 : 0 ≤ (x10_2 : Int) := of_decide_eq_true (by first | (with_reducible assumption) | assumption)
                            have q237 : x10_2 < (t228.length : Int) := of_decide_eq_true (by first | (with_reducible assumption) | assumption)
                            obtain ⟨ad237, A237_0, c237_0, e237, hx237_0, hl237_0, hi237_0⟩ := at_L3 (Kd.S_reads' HO_5.out).2.2 x10_2 p237 q237
                            obtain rfl : ad236 = ad237 := (by injection e237)
                            obtain ⟨ce237, hce237, hMe237, hcc237⟩ := Kd.S_get HO_5.out [] x10_2 p237 (by first | exact q237 | exact of_decide_eq_true (by first | (with_reducible assumption) | assumption) | (have e_ := (Kd.S_reads' HO_5.out).1; omega))
                            obtain ⟨ve237_0, rfl, ge237_0⟩ := hMe237
                            have hv237_0 := hcc237 0 _ rfl
                            rw [Nat.add_zero, show ((Kd.slice 9 Kd.string)).sz = 1 from rfl, Nat.mul_one] at hv237_0
                            replace hv237_0 := Option.some.inj (hv237_0.symm.trans hx237_0)
                            rw [hv237_0] at ge237_0
                            have HL237_0 := Aside0.mk (show Kd.R Kd.string 9 _ _ _ _ (rd_L3 t228 x10_2) from ge237_0)
                            clear hv237_0 ge237_0
                            clear hcc237 hce237
                            have HR237_0 := Aside0.mk hi237_0
                            have HC237_0 := Aside0.mk hl237_0
                            clear hi237_0 hl237_0
                            replace p237 := eq_true p237
                            replace q237 := eq_true q237
                            go_wp2
                            go_roundg k3
                            case measure => have := HJ5.out; have := HK2.out; have := HK3.out; omega
                            case rel => exact ⟨((wrap64 (x9_2 + ((rd_L3 t228 x10_2).length : Int)))), (wrap64 (x10_2 + 1)), (by first | rfl | (simp; done) | (simp [*]; done)), (by first | rfl | (simp; done) | (simp [*]; done)), H', ⟨by have := HJ5.out; have := HK2.out; have := HK3.out; omega⟩, ⟨by (with_reducible repeat (first | apply Kd.R_alloc | apply Kd.R_drewN | apply Kd.R_drew)); exact HO_3.out⟩, ⟨by (with_reducible repeat (first | apply Kd.S_alloc | apply Kd.S_drewN | apply Kd.S_drew)); exact HO_5.out⟩, ⟨by repeat (first | (with_reducible first | exact HB.out | apply below_alloc | apply pw_below_drewN | apply below_drew1) | exact HB.out)⟩⟩
                        · rw [if_neg c29] at H
                          exact absurd H (by simp)
                      · rw [if_neg c28] at H
                        exact absurd H (by simp)
                · rw [if_neg c27] at H
                  exact absurd H (by simp)
              · rw [if_neg c26] at H
                have c26b0 : decide (x10_2 < (t228.length : Int)) = false := decide_eq_false c26
                clear c26
                obtain rfl := Option.some.inj H
                go_wp2
                go_ret
                exact ⟨by first | rfl | (simp [errW_none, errW_some] <;> rfl) | (simp [*, errW_none, errW_some] <;> rfl), by repeat (first | (with_reducible first | exact HB.out | apply below_alloc | apply pw_below_drewN | apply below_drew1) | exact HB.out)⟩

/-- THE ONE PURE STATEMENT of laws_FnSplitLines: yours. -/
def laws_FnSplitLines.Pure : Prop := ∀ (l0 : List Int), l0.length ≤ maxLen → l0.length * 1 ≤ 140737488351232 → (∀ x ∈ l0, (Lit.int .u8 x).wf = true) → ∃ k, laws_FnSplitLines.f k l0 = some true
theorem laws_FnSplitLines.walk (P : laws_FnSplitLines.Pure) (a0 : Option Addr) (len0 cap0 : Nat) (z0 : List Int) (w : World) (w0 : (a0 = none ∧ len0 = 0 ∧ cap0 = 0 ∧ z0 = []) ∨ ∃ x, a0 = some x ∧ len0 ≤ cap0 ∧ cap0 ≤ maxLen ∧ z0.length = cap0 ∧ (∀ i, i < z0.length → w.cell? (x.add i) = some (.int .u8 (z0.getD i 0))) ∧ ∀ n ∈ z0, (Lit.int .u8 n).wf = true) (y0 : len0 * 1 ≤ 140737488351232) :
    Calls Try.prog 5 #[.slice a0 len0 cap0] w fun e w' => e = .returned (.bool true) ∧ Below w.heap.size w w' := by
  obtain ⟨l0, rfl, hr0, hm0, hw0, hc0⟩ := ReadsInt.ofRowC w0
  obtain ⟨k, h⟩ := P l0 hm0 y0 hw0
  refine (laws_FnSplitLines.calls k _ _ l0 true w (Kd.C_of_reads (d := (0 : Int)) (h1 := fun _ => rfl) hr0) hc0 h).mono ?_
  rintro e w' ⟨rfl, hd⟩
  exact ⟨rfl, hd⟩

end Go.Proofs.Ytengipddcaookaa.PFnSplitLines
