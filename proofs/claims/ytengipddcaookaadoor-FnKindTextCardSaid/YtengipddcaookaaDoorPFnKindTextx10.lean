/- Written by a program of this session out of the translation: each Go function named below as a Lean function, and the proof that the call answers as that function does; conditions: those in each statement. -/
import Derived.Test.YtengipddcaookaaDoorVFnKindTextYt
import Derived.Test.YtengipddcaookaaDoorPFnKindTextx0
import Derived.Test.YtengipddcaookaaDoorPFnKindTextx2
import Derived.Test.YtengipddcaookaaDoorPFnKindTextx3
import Derived.Test.YtengipddcaookaaDoorPFnKindTextx9
-- short
-- dense
namespace Go.Proofs.YtengipddcaookaaDoor.PFnKindText
open Go.RowKit Go.Proofs.YtengipddcaookaaDoor.X Go.Proofs.YtengipddcaookaaDoorW.PrintWords Go.Proofs.YtengipddcaookaaDoorW.PrintLast Go.Proofs.YtengipddcaookaaDoorW.PrintMore
attribute [local go_sem] max2_int min2_int max_two min_two max_three min_three max_four min_four   -- for this text's walks alone
set_option linter.unusedVariables false
set_option linter.unusedSimpArgs false

/-! ### impl_SplitWords: function 39 -/
mutual
def impl_SplitWords.l0 : Nat → ByteArray → List ByteArray → Int → Bool → Option (List ByteArray × Bool)
 | 0, _, _, _, _ => none
 | k + 1, x0, x4, x5, x6 => if x5 < (x0.size : Int) then (if 0 ≤ x5 then (if (bt x0 x5) = 32 then (impl_SplitWords.l0 k x0 x4 (wrap64 (x5 + 1)) true) else (if x6 = true then (if (bt x0 x5) = 34 then (if x5 ≤ (x0.size : Int) then ((impl_quoted.f k (x0.extract (x5 : Int).toNat x0.size)).bind fun bt218 => (if bt218.2.2 = true then (if x4.length < 8796093022208 then (impl_SplitWords.l0 k x0 (x4 ++ [bt218.1]) (wrap64 (x5 + bt218.2.1)) false) else (none)) else (some (([] : List ByteArray), false)))) else (none)) else (impl_SplitWords.l1 k x0 x4 x5 x5)) else (some (([] : List ByteArray), false)))) else (none)) else (some (x4, true))
def impl_SplitWords.l1 : Nat → ByteArray → List ByteArray → Int → Int → Option (List ByteArray × Bool)
 | 0, _, _, _, _ => none
 | k + 1, x0, x4, x5, x10 => if x10 < (x0.size : Int) then (if 0 ≤ x10 then ((impl_isAtomByte.f (bt x0 x10)).bind fun t224 => (if t224 = true then (impl_SplitWords.l1 k x0 x4 x5 (wrap64 (x10 + 1))) else (if x10 = x5 then (some (([] : List ByteArray), false)) else (if 0 ≤ x5 then (if x5 ≤ x10 then (if x10 ≤ (x0.size : Int) then (if x4.length < 8796093022208 then (impl_SplitWords.l0 k x0 (x4 ++ [x0.extract (x5 : Int).toNat (x10 : Int).toNat]) x10 false) else (none)) else (none)) else (none)) else (none))))) else (none)) else (if x10 = x5 then (some (([] : List ByteArray), false)) else (if 0 ≤ x5 then (if x5 ≤ x10 then (if x10 ≤ (x0.size : Int) then (if x4.length < 8796093022208 then (impl_SplitWords.l0 k x0 (x4 ++ [x0.extract (x5 : Int).toNat (x10 : Int).toNat]) x10 false) else (none)) else (none)) else (none)) else (none)))
end
def impl_SplitWords.f (k : Nat) (a0 : ByteArray) : Option (List ByteArray × Bool) := (impl_TextValid.f k a0).bind fun t214 => (if t214 = true then (impl_SplitWords.l0 k a0 (([] : List ByteArray)) 0 true) else (some (([] : List ByteArray), false)))
set_option maxHeartbeats 8000000 in
set_option maxRecDepth 100000 in
theorem impl_SplitWords.calls (k : Nat) (a0 : ByteArray) (r1 : List ByteArray) (r2 : Bool) (w : World) (h : impl_SplitWords.f k a0 = some (r1, r2)) :
  Calls Tryd.prog 39 #[.string a0] w fun e w' => ∃ v0_ : Value, e = .returned (.tuple #[v0_, .bool r2]) ∧ Kd.R Kd.string 9 w' w.heap.size (fun _ => True) v0_ r1 ∧ Below w.heap.size w w' := by
 have HB := Aside0.mk (Below.refl w.heap.size w)
 have H : ((impl_TextValid.f k a0).bind fun t214 => (if t214 = true then (impl_SplitWords.l0 k a0 (([] : List ByteArray)) 0 true) else (some (([] : List ByteArray), false)))) = some (r1, r2) := h
 clear h
 replace H := Option.bind_eq_some_iff.mp H
 obtain ⟨t214, A20, H⟩ := H
 (try dsimp only at H)
 have A2 := Aside0.mk A20
 clear A20
 by_cases c3 : t214 = true
 ·
  subst c3
  rw [if_pos rfl] at H
  obtain ⟨y215, hy215⟩ : ∃ y_ : List ByteArray, y_ = (([] : List ByteArray)) := ⟨_, rfl⟩
  replace H : (impl_SplitWords.l0 k a0 y215 0 true) = some (r1, r2) := by first | (rw [hy215]; with_reducible exact H) | (have H2_ := (Option.bind_some _ _).symm.trans H; rw [hy215]; with_reducible exact H2_) | (have H2_ := (Option.bind_some _ _).symm.trans H; with_reducible exact H2_) | with_reducible exact H | (rw [hy215]; exact H) | exact H
  have Ny215 := Aside0.mk hy215
  clear hy215
  have H' := Aside0.mk H
  clear H
  go_enter Tryd.func39, Tryd.ntmps39
  go_wp2_with (first | ((with_reducible refine gate_callee (f := 28) rfl ?_); refine goesL_ (some 12) rfl rfl Tryd.func28 (by kernel_rfl) rfl #[.string a0] rfl ma ?_; (with_reducible refine (impl_TextValid.calls k a0 true _ A2.out).mono ?_); rintro e w' ⟨rfl, ⟨nd, rfl⟩⟩; refine ⟨_, rfl, ?_⟩) | ((with_reducible refine gate_dst (N := 14) rfl ?_); refine Kd.R_lit Kd.string _ 9 ?hg (N := 14) ?hd (xs := ([] : List ByteArray)) (inner := []) (ok := fun _ => True) (okp := fun _ => True) ?hr ?hp (fun _ hk => hk) trivial (Below.refl _ _) (Nat.le_refl _) (by simp) ?_; (case hd => rfl); (case hg => rfl); (case hr => first | (go_simp; done) | (go_simp; rfl)); (case hp => exact (Reps.none _ _)); intro v216 w4 ho5 hb hg_ hnew_; clear hg_ hnew_; (first | rw [← Ny215.out] at ho5 | (simp only [Int.reduceToNat] at ho5; rw [← Ny215.out] at ho5)); have n0_ := Aside0.mk (Kd.R_lower ho5 (below_size (ul HB.out))); have n1_ := Aside0.mk (below_step (ul HB.out) hb); clear HB; have HO217 := n0_; have HB := n1_; clear n0_ n1_; clear hb ho5))
  go_loopg [4, 5, 6] k (fun kq v4 v5 v6 w' => ∃ (x4_1 : List ByteArray) (x5_1 : Int) (x6_1 : Bool), v5 = .int .i64 x5_1 ∧ v6 = .bool x6_1 ∧ Aside0 (impl_SplitWords.l0 kq a0 x4_1 x5_1 x6_1 = some (r1, r2)) ∧ Aside0 (kq ≤ k) ∧ Aside0 (Kd.R Kd.string 9 w' w.heap.size (fun _ => True) v4 x4_1) ∧ Aside0 (Below w.heap.size w w'))
  case atStart => exact ⟨(y215), (0), (true), rs, rs, H', ⟨Nat.le_refl _⟩, ⟨ur HO217.out⟩, ⟨ul HB.out⟩⟩
  case round =>
   clear H'
   try clear c2
   try clear p2
   try clear c3
   obtain ⟨x4_1, x5_1, x6_1, rfl, rfl, HA, HK1, HO_4, HB⟩ := hrel
   cases gk with
   | zero => exact absurd HA.out (by simp [impl_SplitWords.l0])
   | succ k1 =>
    have H := HA.out
    clear HA
    simp only [impl_SplitWords.l0] at H
    by_cases c6 : x5_1 < (a0.size : Int)
    ·
     rw [if_pos c6] at H
     have c6b0 : decide (x5_1 < (a0.size : Int)) = true := decide_eq_true c6
     clear c6
     by_cases c7 : 0 ≤ x5_1
     ·
      rw [if_pos c7] at H
      have c7b0 : decide (0 ≤ x5_1) = true := decide_eq_true c7
      clear c7
      by_cases c9 : (bt a0 x5_1) = 32
      ·
       rw [if_pos c9] at H
       have c9b0 : ((bt a0 x5_1) == 32) = true := beq_iff_eq.mpr c9
       have c9b1 : ((bt a0 x5_1) != 32) = false := bne_eq_false_iff_eq.mpr c9
       clear c9
       have H' := Aside0.mk H
       clear H
       have p8 : 0 ≤ (x5_1 : Int) := of_decide_eq_true (by assumption)
       have q8 : x5_1 < (a0.size : Int) := of_decide_eq_true (by assumption)
       have hx8 := bt_at a0 x5_1
       replace p8 := eq_true p8
       replace q8 := eq_true q8
       go_wp2
       go_roundg k1
       case measure => have := HK1.out; omega
       case rel => exact ⟨(x4_1), (wrap64 (x5_1 + 1)), (true), rs, rs, H', ⟨by have := HK1.out; omega⟩, ⟨ur HO_4.out⟩, ⟨ul HB.out⟩⟩
      ·
       rw [if_neg c9] at H
       have c9b0 : ((bt a0 x5_1) == 32) = false := beq_eq_false_iff_ne.mpr c9
       have c9b1 : ((bt a0 x5_1) != 32) = true := bne_iff_ne.mpr c9
       by_cases c10 : x6_1 = true
       ·
        subst c10
        rw [if_pos rfl] at H
        by_cases c12 : (bt a0 x5_1) = 34
        ·
         rw [if_pos c12] at H
         have c12b0 : ((bt a0 x5_1) == 34) = true := beq_iff_eq.mpr c12
         have c12b1 : ((bt a0 x5_1) != 34) = false := bne_eq_false_iff_eq.mpr c12
         clear c12
         have c13b0 := eq_true (of_decide_eq_true (by assumption) : 0 ≤ x5_1)
         by_cases c14 : x5_1 ≤ (a0.size : Int)
         ·
          rw [if_pos c14] at H
          have c14b0 := eq_true c14
          have c14b1 : decide (x5_1 ≤ (a0.size : Int)) = true := decide_eq_true c14
          clear c14
          replace H := Option.bind_eq_some_iff.mp H
          obtain ⟨⟨t218, t219, t220⟩, A150, H⟩ := H
          (try dsimp only at H)
          have A15 := Aside0.mk A150
          clear A150
          by_cases c16 : t220 = true
          ·
           subst c16
           rw [if_pos rfl] at H
           by_cases c17 : x4_1.length < 8796093022208
           ·
            rw [if_pos c17] at H
            have LMc17 := Aside0.mk c17
            clear c17
            obtain ⟨y221, hy221⟩ : ∃ y_ : List ByteArray, y_ = (x4_1 ++ [t218]) := ⟨_, rfl⟩
            replace H : (impl_SplitWords.l0 k1 a0 y221 (wrap64 (x5_1 + t219)) false) = some (r1, r2) := by first | (rw [hy221]; with_reducible exact H) | (have H2_ := (Option.bind_some _ _).symm.trans H; rw [hy221]; with_reducible exact H2_) | (have H2_ := (Option.bind_some _ _).symm.trans H; with_reducible exact H2_) | with_reducible exact H | (rw [hy221]; exact H) | exact H
            have Ny221 := Aside0.mk hy221
            clear hy221
            have H' := Aside0.mk H
            clear H
            have p8 : 0 ≤ (x5_1 : Int) := of_decide_eq_true (by assumption)
            have q8 : x5_1 < (a0.size : Int) := of_decide_eq_true (by assumption)
            have hx8 := bt_at a0 x5_1
            replace p8 := eq_true p8
            replace q8 := eq_true q8
            have p11 : 0 ≤ (x5_1 : Int) := of_decide_eq_true (by assumption)
            have q11 : x5_1 < (a0.size : Int) := of_decide_eq_true (by assumption)
            have hx11 := bt_at a0 x5_1
            replace p11 := eq_true p11
            replace q11 := eq_true q11
            go_wp2_with (first | ((with_reducible refine gate_callee (f := 75) rfl ?_); refine goesL_ (some 62) rfl rfl Tryd.func75 (by kernel_rfl) rfl #[.string (a0.extract (x5_1 : Int).toNat a0.size)] rfl ma ?_; (with_reducible refine (impl_quoted.calls k1 (a0.extract (x5_1 : Int).toNat a0.size) t218 t219 true _ A15.out).mono ?_); rintro e w18 ⟨rfl, hb⟩; refine ⟨_, rfl, ?_⟩; have n0_ := Aside0.mk (Kd.R_below (ur HO_4.out) hb); have n1_ := Aside0.mk (below_step (ul HB.out) hb); clear HO_4; clear HB; have HO_4 := n0_; have HB := n1_; clear n0_ n1_; (try clear hb)) | ((with_reducible refine gate_builtin (b := .append) (xs := #[.tmp 68, .tmp 70]) rfl ?_); at_builtin; refine Kd.R_append Kd.string (w0 := w) w.heap.size rfl (.tmp 68) (.tmp 70) 47 9 (.string ⟨#[]⟩) 16 rfl Tryd.underlying47 info9 rfl (by decide) (by omega) u4 x4_1 t218 [.string t218] (fun _ => True) (fun _ => False) rfl rfl ?aP (fun _ hk => hk.elim) ?aF ?aO ?aB ?aS ?aL ?_; (case aP => exact rfl); (case aB => exact (ul HB.out)); (case aF => exact (fun _ _ => trivial)); (case aO => exact (ur HO_4.out)); (case aS => exact (below_size (ul HB.out))); (case aL => have := LMc17.out; omega); intro v222 w19 ho hb hg hat; rw [← Ny221.out] at ho; have n0_ := Aside0.mk (hb); have n1_ := Aside0.mk (ho); clear HB; clear HO_4; have HB := n0_; have HO223 := n1_; clear n0_ n1_; clear ho hb hg hat))
            go_roundg k1
            case measure => have := HK1.out; omega
            case rel => exact ⟨(y221), (wrap64 (x5_1 + t219)), (false), rs, rs, H', ⟨by have := HK1.out; omega⟩, ⟨ur HO223.out⟩, ⟨ul HB.out⟩⟩
           ·
            rw [if_neg c17] at H
            exact absurd H (by simp)
          ·
           replace c16 := Bool.eq_false_iff.mpr c16
           subst c16
           rw [if_neg (show ¬ (false = true) by decide)] at H
           simp only [Option.some.injEq, Prod.mk.injEq] at H
           obtain ⟨rfl, rfl⟩ := H
           have p8 : 0 ≤ (x5_1 : Int) := of_decide_eq_true (by assumption)
           have q8 : x5_1 < (a0.size : Int) := of_decide_eq_true (by assumption)
           have hx8 := bt_at a0 x5_1
           replace p8 := eq_true p8
           replace q8 := eq_true q8
           have p11 : 0 ≤ (x5_1 : Int) := of_decide_eq_true (by assumption)
           have q11 : x5_1 < (a0.size : Int) := of_decide_eq_true (by assumption)
           have hx11 := bt_at a0 x5_1
           replace p11 := eq_true p11
           replace q11 := eq_true q11
           go_wp2_with (first | ((with_reducible refine gate_callee (f := 75) rfl ?_); refine goesL_ (some 62) rfl rfl Tryd.func75 (by kernel_rfl) rfl #[.string (a0.extract (x5_1 : Int).toNat a0.size)] rfl ma ?_; (with_reducible refine (impl_quoted.calls k1 (a0.extract (x5_1 : Int).toNat a0.size) t218 t219 false _ A15.out).mono ?_); rintro e w20 ⟨rfl, hb⟩; refine ⟨_, rfl, ?_⟩; have n0_ := Aside0.mk (Kd.R_below (ur HO_4.out) hb); have n1_ := Aside0.mk (below_step (ul HB.out) hb); clear HO_4; clear HB; have HO_4 := n0_; have HB := n1_; clear n0_ n1_; (try clear hb)))
           go_ret2
           exact ⟨_, er, by first | exact Kd.R_nil _ _ _ _ _ | exact Kd.N_nil _ _ _ _ _ | exact Kd.V_nil _ _ _ _ _ | exact Kd.Q_nil _ _ _ _ _ | exact Kd.S_nil _ _ _ _ _, ul HB.out⟩
         ·
          rw [if_neg c14] at H
          exact absurd H (by simp)
        ·
         rw [if_neg c12] at H
         have c12b0 : ((bt a0 x5_1) == 34) = false := beq_eq_false_iff_ne.mpr c12
         have c12b1 : ((bt a0 x5_1) != 34) = true := bne_iff_ne.mpr c12
         have H' := Aside0.mk H
         clear H
         have p8 : 0 ≤ (x5_1 : Int) := of_decide_eq_true (by assumption)
         have q8 : x5_1 < (a0.size : Int) := of_decide_eq_true (by assumption)
         have hx8 := bt_at a0 x5_1
         replace p8 := eq_true p8
         replace q8 := eq_true q8
         have p11 : 0 ≤ (x5_1 : Int) := of_decide_eq_true (by assumption)
         have q11 : x5_1 < (a0.size : Int) := of_decide_eq_true (by assumption)
         have hx11 := bt_at a0 x5_1
         replace p11 := eq_true p11
         replace q11 := eq_true q11
         go_wp2
         go_loopg [10] k1 (fun kq v10 w' => ∃ (x10_2 : Int), v10 = .int .i64 x10_2 ∧ Aside0 (impl_SplitWords.l1 kq a0 x4_1 x5_1 x10_2 = some (r1, r2)) ∧ Aside0 (kq ≤ k1) ∧ Aside0 (Kd.R Kd.string 9 w' w.heap.size (fun _ => True) u4 x4_1) ∧ Aside0 (Below w.heap.size w w'))
         case atStart => exact ⟨(x5_1), rs, H', ⟨Nat.le_refl _⟩, ⟨ur HO_4.out⟩, ⟨ul HB.out⟩⟩
         case round =>
          clear H'
          try clear c1
          try clear p1
          try clear q1
          try clear hx1
          try clear c2
          try clear p2
          try clear c3
          try clear c6
          try clear c6b0
          try clear p6
          try clear c7
          try clear c7b0
          try clear p8
          try clear q8
          try clear hx8
          try clear c9
          try clear c9b0
          try clear c9b1
          try clear c10
          try clear p11
          try clear q11
          try clear hx11
          try clear c12
          try clear c12b0
          try clear c12b1
          try clear c13
          try clear c13b0
          try clear c14
          try clear c14b0
          try clear c14b1
          try clear c16
          try clear c17
          try clear p11
          try clear p2
          try clear p8
          try clear q11
          try clear q8
          obtain ⟨x10_2, rfl, HA, HK2, HO_4, HB⟩ := hrel
          cases gk with
          | zero => exact absurd HA.out (by simp [impl_SplitWords.l1])
          | succ k2 =>
           have H := HA.out
           clear HA
           simp only [impl_SplitWords.l1] at H
           by_cases c21 : x10_2 < (a0.size : Int)
           ·
            rw [if_pos c21] at H
            have c21b0 : decide (x10_2 < (a0.size : Int)) = true := decide_eq_true c21
            clear c21
            by_cases c22 : 0 ≤ x10_2
            ·
             rw [if_pos c22] at H
             have c22b0 : decide (0 ≤ x10_2) = true := decide_eq_true c22
             clear c22
             replace H := Option.bind_eq_some_iff.mp H
             obtain ⟨t224, A240, H⟩ := H
             (try dsimp only at H)
             have A24 := Aside0.mk A240
             clear A240
             by_cases c25 : t224 = true
             ·
              subst c25
              rw [if_pos rfl] at H
              have H' := Aside0.mk H
              clear H
              have p23 : 0 ≤ (x10_2 : Int) := of_decide_eq_true (by assumption)
              have q23 : x10_2 < (a0.size : Int) := of_decide_eq_true (by assumption)
              have hx23 := bt_at a0 x10_2
              replace p23 := eq_true p23
              replace q23 := eq_true q23
              go_wp2_with (first | (go_at_call 76; (with_reducible refine (impl_isAtomByte.calls (bt a0 x10_2) true _ A24.out).mono ?_); rintro e w' ⟨rfl, ⟨nd, rfl⟩⟩))
              go_roundg k2
              case measure => have := HK1.out; have := HK2.out; omega
              case rel => exact ⟨(wrap64 (x10_2 + 1)), rs, H', ⟨by have := HK1.out; have := HK2.out; omega⟩, ⟨ur HO_4.out⟩, ⟨ul HB.out⟩⟩
             ·
              replace c25 := Bool.eq_false_iff.mpr c25
              subst c25
              rw [if_neg (show ¬ (false = true) by decide)] at H
              by_cases c26 : x10_2 = x5_1
              ·
               rw [if_pos c26] at H
               have c26b0 : (x10_2 == x5_1) = true := beq_iff_eq.mpr c26
               have c26b1 : (x10_2 != x5_1) = false := bne_eq_false_iff_eq.mpr c26
               clear c26
               simp only [Option.some.injEq, Prod.mk.injEq] at H
               obtain ⟨rfl, rfl⟩ := H
               have p23 : 0 ≤ (x10_2 : Int) := of_decide_eq_true (by assumption)
               have q23 : x10_2 < (a0.size : Int) := of_decide_eq_true (by assumption)
               have hx23 := bt_at a0 x10_2
               replace p23 := eq_true p23
               replace q23 := eq_true q23
               go_wp2_with (first | (go_at_call 76; (with_reducible refine (impl_isAtomByte.calls (bt a0 x10_2) false _ A24.out).mono ?_); rintro e w' ⟨rfl, ⟨nd, rfl⟩⟩))
               go_ret2
               exact ⟨_, er, by first | exact Kd.R_nil _ _ _ _ _ | exact Kd.N_nil _ _ _ _ _ | exact Kd.V_nil _ _ _ _ _ | exact Kd.Q_nil _ _ _ _ _ | exact Kd.S_nil _ _ _ _ _, ul HB.out⟩
              ·
               rw [if_neg c26] at H
               have c26b0 : (x10_2 == x5_1) = false := beq_eq_false_iff_ne.mpr c26
               have c26b1 : (x10_2 != x5_1) = true := bne_iff_ne.mpr c26
               by_cases c27 : 0 ≤ x5_1
               ·
                rw [if_pos c27] at H
                have c27b0 := eq_true c27
                have c27b1 : decide (0 ≤ x5_1) = true := decide_eq_true c27
                clear c27
                by_cases c28 : x5_1 ≤ x10_2
                ·
                 rw [if_pos c28] at H
                 have c28b0 := eq_true c28
                 have c28b1 : decide (x5_1 ≤ x10_2) = true := decide_eq_true c28
                 clear c28
                 by_cases c29 : x10_2 ≤ (a0.size : Int)
                 ·
                  rw [if_pos c29] at H
                  have c29b0 := eq_true c29
                  have c29b1 : decide (x10_2 ≤ (a0.size : Int)) = true := decide_eq_true c29
                  clear c29
                  by_cases c30 : x4_1.length < 8796093022208
                  ·
                   rw [if_pos c30] at H
                   have LMc30 := Aside0.mk c30
                   clear c30
                   obtain ⟨y225, hy225⟩ : ∃ y_ : List ByteArray, y_ = (x4_1 ++ [a0.extract (x5_1 : Int).toNat (x10_2 : Int).toNat]) := ⟨_, rfl⟩
                   replace H : (impl_SplitWords.l0 k2 a0 y225 x10_2 false) = some (r1, r2) := by first | (rw [hy225]; with_reducible exact H) | (have H2_ := (Option.bind_some _ _).symm.trans H; rw [hy225]; with_reducible exact H2_) | (have H2_ := (Option.bind_some _ _).symm.trans H; with_reducible exact H2_) | with_reducible exact H | (rw [hy225]; exact H) | exact H
                   have Ny225 := Aside0.mk hy225
                   clear hy225
                   have H' := Aside0.mk H
                   clear H
                   have p23 : 0 ≤ (x10_2 : Int) := of_decide_eq_true (by assumption)
                   have q23 : x10_2 < (a0.size : Int) := of_decide_eq_true (by assumption)
                   have hx23 := bt_at a0 x10_2
                   replace p23 := eq_true p23
                   replace q23 := eq_true q23
                   go_wp2_with (first | (go_at_call 76; (with_reducible refine (impl_isAtomByte.calls (bt a0 x10_2) false _ A24.out).mono ?_); rintro e w' ⟨rfl, ⟨nd, rfl⟩⟩) | ((with_reducible refine gate_builtin (b := .append) (xs := #[.tmp 35, .tmp 40]) rfl ?_); at_builtin; refine Kd.R_append Kd.string (w0 := w) w.heap.size rfl (.tmp 35) (.tmp 40) 47 9 (.string ⟨#[]⟩) 16 rfl Tryd.underlying47 info9 rfl (by decide) (by omega) u4 x4_1 (a0.extract (x5_1 : Int).toNat (x10_2 : Int).toNat) [.string (a0.extract (x5_1 : Int).toNat (x10_2 : Int).toNat)] (fun _ => True) (fun _ => False) rfl rfl ?aP (fun _ hk => hk.elim) ?aF ?aO ?aB ?aS ?aL ?_; (case aP => exact rfl); (case aB => exact (ul HB.out)); (case aF => exact (fun _ _ => trivial)); (case aO => exact (ur HO_4.out)); (case aS => exact (below_size (ul HB.out))); (case aL => have := LMc30.out; omega); intro v226 w31 ho hb hg hat; rw [← Ny225.out] at ho; have n0_ := Aside0.mk (hb); have n1_ := Aside0.mk (ho); clear HB; clear HO_4; have HB := n0_; have HO227 := n1_; clear n0_ n1_; clear ho hb hg hat))
                   go_roundg k2
                   case measure => have := HK1.out; have := HK2.out; omega
                   case rel => exact ⟨(y225), (x10_2), (false), rs, rs, H', ⟨by have := HK1.out; have := HK2.out; omega⟩, ⟨ur HO227.out⟩, ⟨ul HB.out⟩⟩
                  ·
                   rw [if_neg c30] at H
                   exact absurd H (by simp)
                 ·
                  rw [if_neg c29] at H
                  exact absurd H (by simp)
                ·
                 rw [if_neg c28] at H
                 exact absurd H (by simp)
               ·
                rw [if_neg c27] at H
                exact absurd H (by simp)
            ·
             rw [if_neg c22] at H
             exact absurd H (by simp)
           ·
            rw [if_neg c21] at H
            have c21b0 : decide (x10_2 < (a0.size : Int)) = false := decide_eq_false c21
            clear c21
            by_cases c32 : x10_2 = x5_1
            ·
             rw [if_pos c32] at H
             have c32b0 : (x10_2 == x5_1) = true := beq_iff_eq.mpr c32
             have c32b1 : (x10_2 != x5_1) = false := bne_eq_false_iff_eq.mpr c32
             clear c32
             simp only [Option.some.injEq, Prod.mk.injEq] at H
             obtain ⟨rfl, rfl⟩ := H
             go_wp2
             go_ret2
             exact ⟨_, er, by first | exact Kd.R_nil _ _ _ _ _ | exact Kd.N_nil _ _ _ _ _ | exact Kd.V_nil _ _ _ _ _ | exact Kd.Q_nil _ _ _ _ _ | exact Kd.S_nil _ _ _ _ _, ul HB.out⟩
            ·
             rw [if_neg c32] at H
             have c32b0 : (x10_2 == x5_1) = false := beq_eq_false_iff_ne.mpr c32
             have c32b1 : (x10_2 != x5_1) = true := bne_iff_ne.mpr c32
             by_cases c33 : 0 ≤ x5_1
             ·
              rw [if_pos c33] at H
              have c33b0 := eq_true c33
              have c33b1 : decide (0 ≤ x5_1) = true := decide_eq_true c33
              clear c33
              by_cases c34 : x5_1 ≤ x10_2
              ·
               rw [if_pos c34] at H
               have c34b0 := eq_true c34
               have c34b1 : decide (x5_1 ≤ x10_2) = true := decide_eq_true c34
               clear c34
               by_cases c35 : x10_2 ≤ (a0.size : Int)
               ·
                rw [if_pos c35] at H
                have c35b0 := eq_true c35
                have c35b1 : decide (x10_2 ≤ (a0.size : Int)) = true := decide_eq_true c35
                clear c35
                by_cases c36 : x4_1.length < 8796093022208
                ·
                 rw [if_pos c36] at H
                 have LMc36 := Aside0.mk c36
                 clear c36
                 obtain ⟨y228, hy228⟩ : ∃ y_ : List ByteArray, y_ = (x4_1 ++ [a0.extract (x5_1 : Int).toNat (x10_2 : Int).toNat]) := ⟨_, rfl⟩
                 replace H : (impl_SplitWords.l0 k2 a0 y228 x10_2 false) = some (r1, r2) := by first | (rw [hy228]; with_reducible exact H) | (have H2_ := (Option.bind_some _ _).symm.trans H; rw [hy228]; with_reducible exact H2_) | (have H2_ := (Option.bind_some _ _).symm.trans H; with_reducible exact H2_) | with_reducible exact H | (rw [hy228]; exact H) | exact H
                 have Ny228 := Aside0.mk hy228
                 clear hy228
                 have H' := Aside0.mk H
                 clear H
                 go_wp2_with (first | ((with_reducible refine gate_builtin (b := .append) (xs := #[.tmp 35, .tmp 40]) rfl ?_); at_builtin; refine Kd.R_append Kd.string (w0 := w) w.heap.size rfl (.tmp 35) (.tmp 40) 47 9 (.string ⟨#[]⟩) 16 rfl Tryd.underlying47 info9 rfl (by decide) (by omega) u4 x4_1 (a0.extract (x5_1 : Int).toNat (x10_2 : Int).toNat) [.string (a0.extract (x5_1 : Int).toNat (x10_2 : Int).toNat)] (fun _ => True) (fun _ => False) rfl rfl ?aP (fun _ hk => hk.elim) ?aF ?aO ?aB ?aS ?aL ?_; (case aP => exact rfl); (case aB => exact (ul HB.out)); (case aF => exact (fun _ _ => trivial)); (case aO => exact (ur HO_4.out)); (case aS => exact (below_size (ul HB.out))); (case aL => have := LMc36.out; omega); intro v229 w37 ho hb hg hat; rw [← Ny228.out] at ho; have n0_ := Aside0.mk (hb); have n1_ := Aside0.mk (ho); clear HB; clear HO_4; have HB := n0_; have HO230 := n1_; clear n0_ n1_; clear ho hb hg hat))
                 go_roundg k2
                 case measure => have := HK1.out; have := HK2.out; omega
                 case rel => exact ⟨(y228), (x10_2), (false), rs, rs, H', ⟨by have := HK1.out; have := HK2.out; omega⟩, ⟨ur HO230.out⟩, ⟨ul HB.out⟩⟩
                ·
                 rw [if_neg c36] at H
                 exact absurd H (by simp)
               ·
                rw [if_neg c35] at H
                exact absurd H (by simp)
              ·
               rw [if_neg c34] at H
               exact absurd H (by simp)
             ·
              rw [if_neg c33] at H
              exact absurd H (by simp)
       ·
        replace c10 := Bool.eq_false_iff.mpr c10
        subst c10
        rw [if_neg (show ¬ (false = true) by decide)] at H
        simp only [Option.some.injEq, Prod.mk.injEq] at H
        obtain ⟨rfl, rfl⟩ := H
        have p8 : 0 ≤ (x5_1 : Int) := of_decide_eq_true (by assumption)
        have q8 : x5_1 < (a0.size : Int) := of_decide_eq_true (by assumption)
        have hx8 := bt_at a0 x5_1
        replace p8 := eq_true p8
        replace q8 := eq_true q8
        go_wp2
        go_ret2
        exact ⟨_, er, by first | exact Kd.R_nil _ _ _ _ _ | exact Kd.N_nil _ _ _ _ _ | exact Kd.V_nil _ _ _ _ _ | exact Kd.Q_nil _ _ _ _ _ | exact Kd.S_nil _ _ _ _ _, ul HB.out⟩
     ·
      rw [if_neg c7] at H
      exact absurd H (by simp)
    ·
     rw [if_neg c6] at H
     have c6b0 : decide (x5_1 < (a0.size : Int)) = false := decide_eq_false c6
     clear c6
     simp only [Option.some.injEq, Prod.mk.injEq] at H
     obtain ⟨rfl, rfl⟩ := H
     go_wp2
     go_ret2
     exact ⟨_, er, by (with_reducible repeat (first | apply Kd.R_alloc | apply Kd.R_drewN | apply Kd.R_drew)); exact HO_4.out, ul HB.out⟩
 ·
  replace c3 := Bool.eq_false_iff.mpr c3
  subst c3
  rw [if_neg (show ¬ (false = true) by decide)] at H
  simp only [Option.some.injEq, Prod.mk.injEq] at H
  obtain ⟨rfl, rfl⟩ := H
  go_enter Tryd.func39, Tryd.ntmps39
  go_wp2_with (first | ((with_reducible refine gate_callee (f := 28) rfl ?_); refine goesL_ (some 12) rfl rfl Tryd.func28 (by kernel_rfl) rfl #[.string a0] rfl ma ?_; (with_reducible refine (impl_TextValid.calls k a0 false _ A2.out).mono ?_); rintro e w' ⟨rfl, ⟨nd, rfl⟩⟩; refine ⟨_, rfl, ?_⟩))
  go_ret2
  exact ⟨_, er, by first | exact Kd.R_nil _ _ _ _ _ | exact Kd.N_nil _ _ _ _ _ | exact Kd.V_nil _ _ _ _ _ | exact Kd.Q_nil _ _ _ _ _ | exact Kd.S_nil _ _ _ _ _, ul HB.out⟩

end Go.Proofs.YtengipddcaookaaDoor.PFnKindText
