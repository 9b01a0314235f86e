/- Written by a program of this session out of the translation: each Go function named below as a Lean function, and the proof that the call answers as that function does; conditions: those in each statement. -/
import Derived.Test.YtengipddcaookaaDoorVFnKindTextYt
import Derived.Test.YtengipddcaookaaDoorPFnKindTextx0
import Derived.Test.YtengipddcaookaaDoorPFnKindTextx6
import Derived.Test.YtengipddcaookaaDoorPFnKindTextx14
-- short
-- dense
namespace Go.Proofs.YtengipddcaookaaDoor.PFnKindText
open Go.RowKit Go.Proofs.YtengipddcaookaaDoor.X Go.Proofs.YtengipddcaookaaDoorW.PrintWords Go.Proofs.YtengipddcaookaaDoorW.PrintLast Go.Proofs.YtengipddcaookaaDoorW.PrintMore
attribute [local go_sem] max2_int min2_int max_two min_two max_three min_three max_four min_four   -- for this text's walks alone
set_option linter.unusedVariables false
set_option linter.unusedSimpArgs false

/-! ### spec_l2Trim: function 49 -/
mutual
def spec_l2Trim.j1 : Nat → ByteArray → Option (ByteArray)
 | 0, _ => none
 | k + 1, x0 => spec_l2Trim.l1 k x0
def spec_l2Trim.l1 : Nat → ByteArray → Option (ByteArray)
 | 0, _ => none
 | k + 1, x0 => if (x0.size : Int) > 0 then (if 0 ≤ (wrap64 ((x0.size : Int) - 1)) then (if (wrap64 ((x0.size : Int) - 1)) < (x0.size : Int) then (if (bt x0 (wrap64 ((x0.size : Int) - 1))) = 32 then (if (wrap64 ((x0.size : Int) - 1)) ≤ (x0.size : Int) then (spec_l2Trim.l1 k (x0.extract 0 ((wrap64 ((x0.size : Int) - 1)) : Int).toNat)) else (none)) else (some x0)) else (none)) else (none)) else (some x0)
def spec_l2Trim.l0 : Nat → ByteArray → Option (ByteArray)
 | 0, _ => none
 | k + 1, x0 => if (x0.size : Int) > 0 then (if 0 < (x0.size : Int) then (if (bt x0 0) = 32 then (if 1 ≤ (x0.size : Int) then (spec_l2Trim.l0 k (x0.extract 1 x0.size)) else (none)) else (spec_l2Trim.j1 k x0)) else (none)) else (spec_l2Trim.j1 k x0)
end
def spec_l2Trim.f (k : Nat) (a0 : ByteArray) : Option (ByteArray) := spec_l2Trim.l0 k a0
set_option maxHeartbeats 8000000 in
set_option maxRecDepth 100000 in
theorem spec_l2Trim.calls (k : Nat) (a0 : ByteArray) (r : ByteArray) (w : World) (h : spec_l2Trim.f k a0 = some r) :
  Calls Tryd.prog 49 #[.string a0] w fun e w' => e = .returned (.string r) ∧ Drawn0 w w' := by
 have H : (spec_l2Trim.l0 k a0) = some r := h
 clear h
 have HC2 := Aside0.mk H
 clear H
 go_enter Tryd.func49, Tryd.ntmps49
 go_upto_block 0 with (fail)
 go_cut [0] (fun v0 wc => ∃ (kq : Nat) (x0_1 : ByteArray), v0 = .string x0_1 ∧ Aside0 (spec_l2Trim.j1 kq x0_1 = some r) ∧ Aside0 (kq ≤ k) ∧ Drawn0 w wc)
 case first =>
  have H := HC2.out
  clear HC2
  have H' := Aside0.mk H
  clear H
  go_wp2
  go_loopg [0] k (fun kq v0 w' => ∃ (x0_1 : ByteArray), v0 = .string x0_1 ∧ Aside0 (spec_l2Trim.l0 kq x0_1 = some r) ∧ Aside0 (kq ≤ k) ∧ Drawn0 w w')
  case atStart => exact ⟨(a0), rs, H', ⟨Nat.le_refl _⟩, by repeat (first | exact Drawn0.refl _ | apply Drawn0.step)⟩
  case round =>
   clear H'
   try clear p2
   obtain ⟨x0_1, rfl, HA, HK1, ⟨m1, rfl⟩⟩ := hrel
   cases gk with
   | zero => exact absurd HA.out (by simp [spec_l2Trim.l0])
   | succ k1 =>
    have H := HA.out
    clear HA
    simp only [spec_l2Trim.l0] at H
    by_cases c3 : (x0_1.size : Int) > 0
    ·
     rw [if_pos c3] at H
     have c3b0 : decide (0 < (x0_1.size : Int)) = true := decide_eq_true c3
     have c3b1 : decide (0 < x0_1.size) = true := decide_eq_true (by omega)
     clear c3
     (first | rw [c3b0] | (simp only [i64_w, i32_w]; rw [c3b0]) | skip)
     by_cases c4 : 0 < (x0_1.size : Int)
     ·
      rw [if_pos c4] at H
      have c4b0 : decide (0 < (x0_1.size : Int)) = true := decide_eq_true c4
      have c4b1 : decide (0 < x0_1.size) = true := decide_eq_true (by omega)
      clear c4
      by_cases c6 : (bt x0_1 0) = 32
      ·
       rw [if_pos c6] at H
       have c6b0 : ((bt x0_1 0) == 32) = true := beq_iff_eq.mpr c6
       have c6b1 : ((bt x0_1 0) != 32) = false := bne_eq_false_iff_eq.mpr c6
       clear c6
       by_cases c7 : 1 ≤ (x0_1.size : Int)
       ·
        rw [if_pos c7] at H
        have c7b0 := eq_true c7
        have c7b1 : decide (1 ≤ (x0_1.size : Int)) = true := decide_eq_true c7
        clear c7
        have H' := Aside0.mk H
        clear H
        have p5 : 0 ≤ (0 : Int) := (by omega)
        have q5 : 0 < x0_1.size := (by have : (0 : Int) < (x0_1.size : Int) := of_decide_eq_true (by assumption); omega)
        have hx5 : ∀ h : 0 < x0_1.size, ((x0_1[0]'h).toNat : Int) = bt x0_1 0 := bt_at x0_1 0
        clear p5
        have qi5 : (0 < (x0_1.size : Int)) = True := eq_true (of_decide_eq_true (by assumption))
        replace q5 := eq_true q5
        go_wp2
        go_roundg k1
        case measure => have := HK1.out; omega
        case rel => exact ⟨(x0_1.extract 1 x0_1.size), rs, H', ⟨by have := HK1.out; omega⟩, by repeat (first | exact Drawn0.refl _ | apply Drawn0.step)⟩
       ·
        rw [if_neg c7] at H
        exact absurd H (by simp)
      ·
       rw [if_neg c6] at H
       have c6b0 : ((bt x0_1 0) == 32) = false := beq_eq_false_iff_ne.mpr c6
       have c6b1 : ((bt x0_1 0) != 32) = true := bne_iff_ne.mpr c6
       have H' := Aside0.mk H
       clear H
       have p5 : 0 ≤ (0 : Int) := (by omega)
       have q5 : 0 < x0_1.size := (by have : (0 : Int) < (x0_1.size : Int) := of_decide_eq_true (by assumption); omega)
       have hx5 : ∀ h : 0 < x0_1.size, ((x0_1[0]'h).toNat : Int) = bt x0_1 0 := bt_at x0_1 0
       clear p5
       have qi5 : (0 < (x0_1.size : Int)) = True := eq_true (of_decide_eq_true (by assumption))
       replace q5 := eq_true q5
       go_wp2
       go_meet
       case rel => exact ⟨_, (x0_1), rs, H', ⟨by have := HK1.out; first | omega | exact Nat.le_refl _⟩, by repeat (first | exact Drawn0.refl _ | apply Drawn0.step)⟩
     ·
      rw [if_neg c4] at H
      exact absurd H (by simp)
    ·
     rw [if_neg c3] at H
     have c3b0 : decide (0 < (x0_1.size : Int)) = false := decide_eq_false c3
     have c3b1 : decide (0 < x0_1.size) = false := decide_eq_false (by omega)
     clear c3
     (first | rw [c3b0] | (simp only [i64_w, i32_w]; rw [c3b0]) | skip)
     have H' := Aside0.mk H
     clear H
     go_wp2
     go_meet
     case rel => exact ⟨_, (x0_1), rs, H', ⟨by have := HK1.out; first | omega | exact Nat.le_refl _⟩, by repeat (first | exact Drawn0.refl _ | apply Drawn0.step)⟩
 case rest =>
  clear HC2
  try clear p2
  try clear c3
  try clear c3b0
  try clear c3b1
  try clear c4
  try clear c4b0
  try clear c4b1
  try clear p5
  try clear q5
  try clear hx5
  try clear qi5
  try clear c6
  try clear c6b0
  try clear c6b1
  try clear c7
  try clear c7b0
  try clear c7b1
  try clear p2
  try clear p5
  try clear q5
  obtain ⟨kq, x0_1, rfl, HA, HJ1, ⟨mc1, rfl⟩⟩ := hcut
  cases kq with
  | zero => exact absurd HA.out (by simp [spec_l2Trim.j1])
  | succ kj1 =>
   have H := HA.out
   clear HA
   simp only [spec_l2Trim.j1] at H
   have H' := Aside0.mk H
   clear H
   go_wp2
   go_loopg [0] kj1 (fun kq v0 w' => ∃ (x0_2 : ByteArray), v0 = .string x0_2 ∧ Aside0 (spec_l2Trim.l1 kq x0_2 = some r) ∧ Aside0 (kq ≤ kj1) ∧ Drawn0 w w')
   case atStart => exact ⟨(x0_1), rs, H', ⟨Nat.le_refl _⟩, by repeat (first | exact Drawn0.refl _ | apply Drawn0.step)⟩
   case round =>
    clear H'
    try clear c1
    try clear p2
    try clear c3
    try clear c3b0
    try clear c3b1
    try clear c4
    try clear c4b0
    try clear c4b1
    try clear p5
    try clear q5
    try clear hx5
    try clear qi5
    try clear c6
    try clear c6b0
    try clear c6b1
    try clear c7
    try clear c7b0
    try clear c7b1
    try clear p2
    try clear p5
    try clear q5
    obtain ⟨x0_2, rfl, HA, HK2, ⟨m2, rfl⟩⟩ := hrel
    cases gk with
    | zero => exact absurd HA.out (by simp [spec_l2Trim.l1])
    | succ k2 =>
     have H := HA.out
     clear HA
     simp only [spec_l2Trim.l1] at H
     by_cases c8 : (x0_2.size : Int) > 0
     ·
      rw [if_pos c8] at H
      have c8b0 : decide (0 < (x0_2.size : Int)) = true := decide_eq_true c8
      have c8b1 : decide (0 < x0_2.size) = true := decide_eq_true (by omega)
      clear c8
      obtain ⟨ji9, hji9⟩ : ∃ j_ : Int, (wrap64 ((x0_2.size : Int) - 1)) = j_ := ⟨_, rfl⟩
      replace H : (if 0 ≤ (ji9) then (if (ji9) < (x0_2.size : Int) then (if (bt x0_2 (ji9)) = 32 then (if (ji9) ≤ (x0_2.size : Int) then (spec_l2Trim.l1 k2 (x0_2.extract 0 ((ji9) : Int).toNat)) else (none)) else (some x0_2)) else (none)) else (none)) = some r := by first | (rw [hji9] at H; exact H) | (simp only [hji9] at H ⊢; exact H)
      have hji9w : (IntKind.i64.wrap ((x0_2.size : Int) - 1)) = ji9 := (i64_w _).trans hji9
      by_cases c10 : 0 ≤ (ji9)
      ·
       rw [if_pos c10] at H
       have c10b0 : decide (0 ≤ (ji9)) = true := decide_eq_true c10
       clear c10
       by_cases c11 : (ji9) < (x0_2.size : Int)
       ·
        rw [if_pos c11] at H
        have c11b0 : decide ((ji9) < (x0_2.size : Int)) = true := decide_eq_true c11
        clear c11
        by_cases c13 : (bt x0_2 (ji9)) = 32
        ·
         rw [if_pos c13] at H
         have c13b0 : ((bt x0_2 (ji9)) == 32) = true := beq_iff_eq.mpr c13
         have c13b1 : ((bt x0_2 (ji9)) != 32) = false := bne_eq_false_iff_eq.mpr c13
         clear c13
         have c14b0 := eq_true (of_decide_eq_true (by assumption) : 0 ≤ (ji9))
         by_cases c15 : (ji9) ≤ (x0_2.size : Int)
         ·
          rw [if_pos c15] at H
          have c15b0 := eq_true c15
          have c15b1 : decide ((ji9) ≤ (x0_2.size : Int)) = true := decide_eq_true c15
          clear c15
          have H' := Aside0.mk H
          clear H
          have p12 : 0 ≤ ((ji9) : Int) := of_decide_eq_true (by assumption)
          have q12 : (ji9) < (x0_2.size : Int) := of_decide_eq_true (by assumption)
          have hx12 := bt_at x0_2 (ji9)
          replace p12 := eq_true p12
          replace q12 := eq_true q12
          go_wp2
          go_roundg k2
          case measure => have := HJ1.out; have := HK2.out; omega
          case rel => exact ⟨(x0_2.extract 0 ((ji9) : Int).toNat), (by first | rfl | (simp; done) | (simp only [← hji9] <;> (first | rfl | simp)) | (simp [*]; done)), H', ⟨by have := HJ1.out; have := HK2.out; omega⟩, by repeat (first | exact Drawn0.refl _ | apply Drawn0.step)⟩
         ·
          rw [if_neg c15] at H
          exact absurd H (by simp)
        ·
         rw [if_neg c13] at H
         have c13b0 : ((bt x0_2 (ji9)) == 32) = false := beq_eq_false_iff_ne.mpr c13
         have c13b1 : ((bt x0_2 (ji9)) != 32) = true := bne_iff_ne.mpr c13
         obtain rfl := Option.some.inj H
         have p12 : 0 ≤ ((ji9) : Int) := of_decide_eq_true (by assumption)
         have q12 : (ji9) < (x0_2.size : Int) := of_decide_eq_true (by assumption)
         have hx12 := bt_at x0_2 (ji9)
         replace p12 := eq_true p12
         replace q12 := eq_true q12
         go_wp2
         go_ret
         exact ⟨by first | rfl | (simp; done) | (simp only [← hji9] <;> (first | rfl | simp)) | (simp [*]; done), by repeat (first | exact Drawn0.refl _ | apply Drawn0.step)⟩
       ·
        rw [if_neg c11] at H
        exact absurd H (by simp)
      ·
       rw [if_neg c10] at H
       exact absurd H (by simp)
     ·
      rw [if_neg c8] at H
      have c8b0 : decide (0 < (x0_2.size : Int)) = false := decide_eq_false c8
      have c8b1 : decide (0 < x0_2.size) = false := decide_eq_false (by omega)
      clear c8
      obtain rfl := Option.some.inj H
      go_wp2
      go_ret
      exact ⟨by first | rfl | (simp; done) | (simp [*]; done), by repeat (first | exact Drawn0.refl _ | apply Drawn0.step)⟩

/-! ### spec_l1Words: function 51 -/
mutual
def spec_l1Words.l0 : Nat → ByteArray → List ByteArray → Int → Option (List ByteArray × Bool)
 | 0, _, _, _ => none
 | k + 1, x0, x4, x5 => if x5 < (x0.size : Int) then (if 0 ≤ x5 then (if (bt x0 x5) = 32 then (spec_l1Words.l0 k x0 x4 (wrap64 (x5 + 1))) else (if (bt x0 x5) = 34 then ((spec_l1Read.f k x0 x5).bind fun bt385 => (if bt385.2 < 0 then (some ((([] : List ByteArray)), false)) else (if bt385.2 = x5 then (some ((([] : List ByteArray)), false)) else (if bt385.2 < (x0.size : Int) then (if 0 ≤ bt385.2 then (if (bt x0 bt385.2) = 32 then (if x4.length < 8796093022208 then (spec_l1Words.l0 k x0 (x4 ++ [bt385.1]) bt385.2) else (none)) else (some ((([] : List ByteArray)), false))) else (none)) else (if x4.length < 8796093022208 then (spec_l1Words.l0 k x0 (x4 ++ [bt385.1]) bt385.2) else (none)))))) else (spec_l1Words.l1 k x0 x4 x5 x5))) else (none)) else (some (x4, true))
def spec_l1Words.l1 : Nat → ByteArray → List ByteArray → Int → Int → Option (List ByteArray × Bool)
 | 0, _, _, _, _ => none
 | k + 1, x0, x4, x5, x6 => if x5 < (x0.size : Int) then (if 0 ≤ x5 then ((spec_l1Atom.f k (bt x0 x5)).bind fun t402 => (if t402 = true then (spec_l1Words.l1 k x0 x4 (wrap64 (x5 + 1)) x6) else (if 0 ≤ x6 then (if x6 ≤ x5 then (if x5 ≤ (x0.size : Int) then (if x5 = x6 then (some ((([] : List ByteArray)), false)) else (if (bt x0 x5) = 32 then (if x4.length < 8796093022208 then (spec_l1Words.l0 k x0 (x4 ++ [x0.extract (x6 : Int).toNat (x5 : Int).toNat]) x5) else (none)) else (some ((([] : List ByteArray)), false)))) else (none)) else (none)) else (none)))) else (none)) else (if 0 ≤ x6 then (if x6 ≤ x5 then (if x5 ≤ (x0.size : Int) then (if x5 = x6 then (some ((([] : List ByteArray)), false)) else (if x4.length < 8796093022208 then (spec_l1Words.l0 k x0 (x4 ++ [x0.extract (x6 : Int).toNat (x5 : Int).toNat]) x5) else (none))) else (none)) else (none)) else (none))
end
def spec_l1Words.f (k : Nat) (a0 : ByteArray) : Option (List ByteArray × Bool) := spec_l1Words.l0 k a0 (([] : List ByteArray)) 0
set_option maxHeartbeats 8000000 in
set_option maxRecDepth 100000 in
theorem spec_l1Words.calls (k : Nat) (a0 : ByteArray) (r1 : List ByteArray) (r2 : Bool) (w : World) (h : spec_l1Words.f k a0 = some (r1, r2)) :
  Calls Tryd.prog 51 #[.string a0] w fun e w' => ∃ v0_ : Value, e = .returned (.tuple #[v0_, .bool r2]) ∧ Kd.R Kd.string 9 w' w.heap.size (fun _ => True) v0_ r1 ∧ Below w.heap.size w w' := by
 have HB := Aside0.mk (Below.refl w.heap.size w)
 have H : (spec_l1Words.l0 k a0 (([] : List ByteArray)) 0) = some (r1, r2) := h
 clear h
 obtain ⟨y382, hy382⟩ : ∃ y_ : List ByteArray, y_ = (([] : List ByteArray)) := ⟨_, rfl⟩
 replace H : (spec_l1Words.l0 k a0 y382 0) = some (r1, r2) := by first | (rw [hy382]; with_reducible exact H) | (have H2_ := (Option.bind_some _ _).symm.trans H; rw [hy382]; with_reducible exact H2_) | (have H2_ := (Option.bind_some _ _).symm.trans H; with_reducible exact H2_) | with_reducible exact H | (rw [hy382]; exact H) | exact H
 have Ny382 := Aside0.mk hy382
 clear hy382
 have H' := Aside0.mk H
 clear H
 go_enter Tryd.func51, Tryd.ntmps51
 go_wp2_with (first | ((with_reducible refine gate_dst (N := 8) rfl ?_); (try (refine gate_guard (by rfl) ?_; dsimp only)); refine Kd.R_lit Kd.string _ 9 ?hg (N := 8) ?hd (xs := ([] : List ByteArray)) (inner := []) (ok := fun _ => True) (okp := fun _ => True) ?hr ?hp (fun _ hk => hk) trivial (Below.refl _ _) (Nat.le_refl _) (by simp) ?_; (case hd => rfl); (case hg => rfl); (case hr => first | (go_simp; done) | (go_simp; rfl)); (case hp => exact (Reps.none _ _)); intro v383 w2 ho3 hb hg_ hnew_; clear hg_ hnew_; (first | rw [← Ny382.out] at ho3 | (simp only [Int.reduceToNat] at ho3; rw [← Ny382.out] at ho3)); have n0_ := Aside0.mk (Kd.R_lower ho3 (below_size (ul HB.out))); have n1_ := Aside0.mk (below_step (ul HB.out) hb); clear HB; have HO384 := n0_; have HB := n1_; clear n0_ n1_; clear hb ho3))
 go_loopg [4, 5] k (fun kq v4 v5 w' => ∃ (x4_1 : List ByteArray) (x5_1 : Int), v5 = .int .i64 x5_1 ∧ Aside0 (spec_l1Words.l0 kq a0 x4_1 x5_1 = some (r1, r2)) ∧ Aside0 (kq ≤ k) ∧ Aside0 (Kd.R Kd.string 9 w' w.heap.size (fun _ => True) v4 x4_1) ∧ Aside0 (Below w.heap.size w w'))
 case atStart => exact ⟨(y382), (0), rs, H', ⟨Nat.le_refl _⟩, ⟨ur HO384.out⟩, ⟨ul HB.out⟩⟩
 case round =>
  clear H'
  try clear p2
  obtain ⟨x4_1, x5_1, rfl, HA, HK1, HO_4, HB⟩ := hrel
  cases gk with
  | zero => exact absurd HA.out (by simp [spec_l1Words.l0])
  | succ k1 =>
   have H := HA.out
   clear HA
   simp only [spec_l1Words.l0] at H
   by_cases c4 : x5_1 < (a0.size : Int)
   ·
    rw [if_pos c4] at H
    have c4b0 : decide (x5_1 < (a0.size : Int)) = true := decide_eq_true c4
    clear c4
    by_cases c5 : 0 ≤ x5_1
    ·
     rw [if_pos c5] at H
     have c5b0 : decide (0 ≤ x5_1) = true := decide_eq_true c5
     clear c5
     by_cases c7 : (bt a0 x5_1) = 32
     ·
      rw [if_pos c7] at H
      have c7b0 : ((bt a0 x5_1) == 32) = true := beq_iff_eq.mpr c7
      have c7b1 : ((bt a0 x5_1) != 32) = false := bne_eq_false_iff_eq.mpr c7
      clear c7
      have H' := Aside0.mk H
      clear H
      have p6 : 0 ≤ (x5_1 : Int) := of_decide_eq_true (by assumption)
      have q6 : x5_1 < (a0.size : Int) := of_decide_eq_true (by assumption)
      have hx6 := bt_at a0 x5_1
      replace p6 := eq_true p6
      replace q6 := eq_true q6
      go_wp2
      go_roundg k1
      case measure => have := HK1.out; omega
      case rel => exact ⟨(x4_1), (wrap64 (x5_1 + 1)), rs, H', ⟨by have := HK1.out; omega⟩, ⟨ur HO_4.out⟩, ⟨ul HB.out⟩⟩
     ·
      rw [if_neg c7] at H
      have c7b0 : ((bt a0 x5_1) == 32) = false := beq_eq_false_iff_ne.mpr c7
      have c7b1 : ((bt a0 x5_1) != 32) = true := bne_iff_ne.mpr c7
      by_cases c9 : (bt a0 x5_1) = 34
      ·
       rw [if_pos c9] at H
       have c9b0 : ((bt a0 x5_1) == 34) = true := beq_iff_eq.mpr c9
       have c9b1 : ((bt a0 x5_1) != 34) = false := bne_eq_false_iff_eq.mpr c9
       clear c9
       replace H := Option.bind_eq_some_iff.mp H
       obtain ⟨⟨t385, t386⟩, A100, H⟩ := H
       (try dsimp only at H)
       have A10 := Aside0.mk A100
       clear A100
       by_cases c11 : t386 < 0
       ·
        rw [if_pos c11] at H
        have c11b0 : decide (t386 < 0) = true := decide_eq_true c11
        clear c11
        obtain ⟨y387, hy387⟩ : ∃ y_ : List ByteArray, y_ = (([] : List ByteArray)) := ⟨_, rfl⟩
        replace H : (some (y387, false)) = some (r1, r2) := by first | (rw [hy387]; with_reducible exact H) | (have H2_ := (Option.bind_some _ _).symm.trans H; rw [hy387]; with_reducible exact H2_) | (have H2_ := (Option.bind_some _ _).symm.trans H; with_reducible exact H2_) | with_reducible exact H | (rw [hy387]; exact H) | exact H
        have Ny387 := Aside0.mk hy387
        clear hy387
        simp only [Option.some.injEq, Prod.mk.injEq] at H
        obtain ⟨rfl, rfl⟩ := H
        have p6 : 0 ≤ (x5_1 : Int) := of_decide_eq_true (by assumption)
        have q6 : x5_1 < (a0.size : Int) := of_decide_eq_true (by assumption)
        have hx6 := bt_at a0 x5_1
        replace p6 := eq_true p6
        replace q6 := eq_true q6
        have p8 : 0 ≤ (x5_1 : Int) := of_decide_eq_true (by assumption)
        have q8 : x5_1 < (a0.size : Int) := of_decide_eq_true (by assumption)
        have hx8 := bt_at a0 x5_1
        replace p8 := eq_true p8
        replace q8 := eq_true q8
        go_wp2_with (first | ((with_reducible refine gate_callee (f := 82) rfl ?_); refine goesL_ (some 27) rfl rfl Tryd.func82 (by kernel_rfl) rfl #[.string a0, .int .i64 x5_1] rfl ma ?_; (with_reducible refine (spec_l1Read.calls k1 a0 x5_1 t385 t386 _ A10.out).mono ?_); rintro e w' ⟨rfl, ⟨nd, rfl⟩⟩; refine ⟨_, rfl, ?_⟩) | ((with_reducible refine gate_dst (N := 32) rfl ?_); (try (refine gate_guard (by rfl) ?_; dsimp only)); refine Kd.R_lit Kd.string _ 9 ?hg (N := 32) ?hd (xs := ([] : List ByteArray)) (inner := []) (ok := fun _ => True) (okp := fun _ => True) ?hr ?hp (fun _ hk => hk) trivial (Below.refl _ _) (Nat.le_refl _) (by simp) ?_; (case hd => rfl); (case hg => rfl); (case hr => first | (go_simp; done) | (go_simp; rfl)); (case hp => exact (Reps.none _ _)); intro v388 w12 ho13 hb hg_ hnew_; clear hg_ hnew_; (first | rw [← Ny387.out] at ho13 | (simp only [Int.reduceToNat] at ho13; rw [← Ny387.out] at ho13)); have n0_ := Aside0.mk (Kd.R_elder' (ur HO_4.out) (Kd.R_base ho13) hb); have n1_ := Aside0.mk (Kd.R_lower (Kd.R_new' ho13 (Kd.R_lt (ur HO_4.out))) (below_size (ul HB.out))); have n2_ := Aside0.mk (below_step (ul HB.out) hb); clear HO_4; clear HB; have HO_4 := n0_; have HO389 := n1_; have HB := n2_; clear n0_ n1_ n2_; clear hb ho13))
        go_ret2
        exact ⟨_, er, by (with_reducible repeat (first | apply Kd.R_alloc | apply Kd.R_drewN | apply Kd.R_drew)); exact Kd.R_mono HO389.out (fun _ hk => trivial), ul HB.out⟩
       ·
        rw [if_neg c11] at H
        have c11b0 : decide (t386 < 0) = false := decide_eq_false c11
        clear c11
        by_cases c14 : t386 = x5_1
        ·
         rw [if_pos c14] at H
         have c14b0 : (t386 == x5_1) = true := beq_iff_eq.mpr c14
         have c14b1 : (t386 != x5_1) = false := bne_eq_false_iff_eq.mpr c14
         clear c14
         obtain ⟨y390, hy390⟩ : ∃ y_ : List ByteArray, y_ = (([] : List ByteArray)) := ⟨_, rfl⟩
         replace H : (some (y390, false)) = some (r1, r2) := by first | (rw [hy390]; with_reducible exact H) | (have H2_ := (Option.bind_some _ _).symm.trans H; rw [hy390]; with_reducible exact H2_) | (have H2_ := (Option.bind_some _ _).symm.trans H; with_reducible exact H2_) | with_reducible exact H | (rw [hy390]; exact H) | exact H
         have Ny390 := Aside0.mk hy390
         clear hy390
         simp only [Option.some.injEq, Prod.mk.injEq] at H
         obtain ⟨rfl, rfl⟩ := H
         have p6 : 0 ≤ (x5_1 : Int) := of_decide_eq_true (by assumption)
         have q6 : x5_1 < (a0.size : Int) := of_decide_eq_true (by assumption)
         have hx6 := bt_at a0 x5_1
         replace p6 := eq_true p6
         replace q6 := eq_true q6
         have p8 : 0 ≤ (x5_1 : Int) := of_decide_eq_true (by assumption)
         have q8 : x5_1 < (a0.size : Int) := of_decide_eq_true (by assumption)
         have hx8 := bt_at a0 x5_1
         replace p8 := eq_true p8
         replace q8 := eq_true q8
         go_wp2_with (first | ((with_reducible refine gate_callee (f := 82) rfl ?_); refine goesL_ (some 27) rfl rfl Tryd.func82 (by kernel_rfl) rfl #[.string a0, .int .i64 x5_1] rfl ma ?_; (with_reducible refine (spec_l1Read.calls k1 a0 x5_1 t385 t386 _ A10.out).mono ?_); rintro e w' ⟨rfl, ⟨nd, rfl⟩⟩; refine ⟨_, rfl, ?_⟩) | ((with_reducible refine gate_dst (N := 64) rfl ?_); (try (refine gate_guard (by rfl) ?_; dsimp only)); refine Kd.R_lit Kd.string _ 9 ?hg (N := 64) ?hd (xs := ([] : List ByteArray)) (inner := []) (ok := fun _ => True) (okp := fun _ => True) ?hr ?hp (fun _ hk => hk) trivial (Below.refl _ _) (Nat.le_refl _) (by simp) ?_; (case hd => rfl); (case hg => rfl); (case hr => first | (go_simp; done) | (go_simp; rfl)); (case hp => exact (Reps.none _ _)); intro v391 w15 ho16 hb hg_ hnew_; clear hg_ hnew_; (first | rw [← Ny390.out] at ho16 | (simp only [Int.reduceToNat] at ho16; rw [← Ny390.out] at ho16)); have n0_ := Aside0.mk (Kd.R_elder' (ur HO_4.out) (Kd.R_base ho16) hb); have n1_ := Aside0.mk (Kd.R_lower (Kd.R_new' ho16 (Kd.R_lt (ur HO_4.out))) (below_size (ul HB.out))); have n2_ := Aside0.mk (below_step (ul HB.out) hb); clear HO_4; clear HB; have HO_4 := n0_; have HO392 := n1_; have HB := n2_; clear n0_ n1_ n2_; clear hb ho16))
         go_ret2
         exact ⟨_, er, by (with_reducible repeat (first | apply Kd.R_alloc | apply Kd.R_drewN | apply Kd.R_drew)); exact Kd.R_mono HO392.out (fun _ hk => trivial), ul HB.out⟩
        ·
         rw [if_neg c14] at H
         have c14b0 : (t386 == x5_1) = false := beq_eq_false_iff_ne.mpr c14
         have c14b1 : (t386 != x5_1) = true := bne_iff_ne.mpr c14
         by_cases c17 : t386 < (a0.size : Int)
         ·
          rw [if_pos c17] at H
          have c17b0 : decide (t386 < (a0.size : Int)) = true := decide_eq_true c17
          clear c17
          by_cases c18 : 0 ≤ t386
          ·
           rw [if_pos c18] at H
           have c18b0 : decide (0 ≤ t386) = true := decide_eq_true c18
           clear c18
           by_cases c20 : (bt a0 t386) = 32
           ·
            rw [if_pos c20] at H
            have c20b0 : ((bt a0 t386) == 32) = true := beq_iff_eq.mpr c20
            have c20b1 : ((bt a0 t386) != 32) = false := bne_eq_false_iff_eq.mpr c20
            clear c20
            by_cases c21 : x4_1.length < 8796093022208
            ·
             rw [if_pos c21] at H
             have LMc21 := Aside0.mk c21
             clear c21
             obtain ⟨y393, hy393⟩ : ∃ y_ : List ByteArray, y_ = (x4_1 ++ [t385]) := ⟨_, rfl⟩
             replace H : (spec_l1Words.l0 k1 a0 y393 t386) = some (r1, r2) := by first | (rw [hy393]; with_reducible exact H) | (have H2_ := (Option.bind_some _ _).symm.trans H; rw [hy393]; with_reducible exact H2_) | (have H2_ := (Option.bind_some _ _).symm.trans H; with_reducible exact H2_) | with_reducible exact H | (rw [hy393]; exact H) | exact H
             have Ny393 := Aside0.mk hy393
             clear hy393
             have H' := Aside0.mk H
             clear H
             have p6 : 0 ≤ (x5_1 : Int) := of_decide_eq_true (by assumption)
             have q6 : x5_1 < (a0.size : Int) := of_decide_eq_true (by assumption)
             have hx6 := bt_at a0 x5_1
             replace p6 := eq_true p6
             replace q6 := eq_true q6
             have p8 : 0 ≤ (x5_1 : Int) := of_decide_eq_true (by assumption)
             have q8 : x5_1 < (a0.size : Int) := of_decide_eq_true (by assumption)
             have hx8 := bt_at a0 x5_1
             replace p8 := eq_true p8
             replace q8 := eq_true q8
             go_wp2_with (first | ((with_reducible refine gate_callee (f := 82) rfl ?_); refine goesL_ (some 27) rfl rfl Tryd.func82 (by kernel_rfl) rfl #[.string a0, .int .i64 x5_1] rfl ma ?_; (with_reducible refine (spec_l1Read.calls k1 a0 x5_1 t385 t386 _ A10.out).mono ?_); rintro e w' ⟨rfl, ⟨nd, rfl⟩⟩; refine ⟨_, rfl, ?_⟩; have p19 : 0 ≤ (t386 : Int) := of_decide_eq_true (by assumption); have q19 : t386 < (a0.size : Int) := of_decide_eq_true (by assumption); have hx19 := bt_at a0 t386; replace p19 := eq_true p19; replace q19 := eq_true q19) | ((with_reducible refine gate_builtin (b := .append) (xs := #[.tmp 65, .tmp 67]) rfl ?_); (try (refine gate_guard (by rfl) ?_; dsimp only)); at_builtin; refine Kd.R_append Kd.string (w0 := w) w.heap.size rfl (.tmp 65) (.tmp 67) 47 9 (.string ⟨#[]⟩) 16 rfl Tryd.underlying47 info9 rfl (by decide) (by omega) u4 x4_1 t385 [.string t385] (fun _ => True) (fun _ => False) rfl rfl ?aP (fun _ hk => hk.elim) ?aF ?aO ?aB ?aS ?aL ?_; (case aP => exact rfl); (case aB => exact (ul HB.out)); (case aF => exact (fun _ _ => trivial)); (case aO => exact (ur HO_4.out)); (case aS => exact (below_size (ul HB.out))); (case aL => have := LMc21.out; omega); intro v394 w22 ho hb hg hat; rw [← Ny393.out] at ho; have n0_ := Aside0.mk (hb); have n1_ := Aside0.mk (ho); clear HB; clear HO_4; have HB := n0_; have HO395 := n1_; clear n0_ n1_; clear ho hb hg hat))
             go_roundg k1
             case measure => have := HK1.out; omega
             case rel => exact ⟨(y393), (t386), rs, H', ⟨by have := HK1.out; omega⟩, ⟨ur HO395.out⟩, ⟨ul HB.out⟩⟩
            ·
             rw [if_neg c21] at H
             exact absurd H (by simp)
           ·
            rw [if_neg c20] at H
            have c20b0 : ((bt a0 t386) == 32) = false := beq_eq_false_iff_ne.mpr c20
            have c20b1 : ((bt a0 t386) != 32) = true := bne_iff_ne.mpr c20
            obtain ⟨y396, hy396⟩ : ∃ y_ : List ByteArray, y_ = (([] : List ByteArray)) := ⟨_, rfl⟩
            replace H : (some (y396, false)) = some (r1, r2) := by first | (rw [hy396]; with_reducible exact H) | (have H2_ := (Option.bind_some _ _).symm.trans H; rw [hy396]; with_reducible exact H2_) | (have H2_ := (Option.bind_some _ _).symm.trans H; with_reducible exact H2_) | with_reducible exact H | (rw [hy396]; exact H) | exact H
            have Ny396 := Aside0.mk hy396
            clear hy396
            simp only [Option.some.injEq, Prod.mk.injEq] at H
            obtain ⟨rfl, rfl⟩ := H
            have p6 : 0 ≤ (x5_1 : Int) := of_decide_eq_true (by assumption)
            have q6 : x5_1 < (a0.size : Int) := of_decide_eq_true (by assumption)
            have hx6 := bt_at a0 x5_1
            replace p6 := eq_true p6
            replace q6 := eq_true q6
            have p8 : 0 ≤ (x5_1 : Int) := of_decide_eq_true (by assumption)
            have q8 : x5_1 < (a0.size : Int) := of_decide_eq_true (by assumption)
            have hx8 := bt_at a0 x5_1
            replace p8 := eq_true p8
            replace q8 := eq_true q8
            go_wp2_with (first | ((with_reducible refine gate_callee (f := 82) rfl ?_); refine goesL_ (some 27) rfl rfl Tryd.func82 (by kernel_rfl) rfl #[.string a0, .int .i64 x5_1] rfl ma ?_; (with_reducible refine (spec_l1Read.calls k1 a0 x5_1 t385 t386 _ A10.out).mono ?_); rintro e w' ⟨rfl, ⟨nd, rfl⟩⟩; refine ⟨_, rfl, ?_⟩; have p19 : 0 ≤ (t386 : Int) := of_decide_eq_true (by assumption); have q19 : t386 < (a0.size : Int) := of_decide_eq_true (by assumption); have hx19 := bt_at a0 t386; replace p19 := eq_true p19; replace q19 := eq_true q19) | ((with_reducible refine gate_dst (N := 64) rfl ?_); (try (refine gate_guard (by rfl) ?_; dsimp only)); refine Kd.R_lit Kd.string _ 9 ?hg (N := 64) ?hd (xs := ([] : List ByteArray)) (inner := []) (ok := fun _ => True) (okp := fun _ => True) ?hr ?hp (fun _ hk => hk) trivial (Below.refl _ _) (Nat.le_refl _) (by simp) ?_; (case hd => rfl); (case hg => rfl); (case hr => first | (go_simp; done) | (go_simp; rfl)); (case hp => exact (Reps.none _ _)); intro v397 w23 ho24 hb hg_ hnew_; clear hg_ hnew_; (first | rw [← Ny396.out] at ho24 | (simp only [Int.reduceToNat] at ho24; rw [← Ny396.out] at ho24)); have n0_ := Aside0.mk (Kd.R_elder' (ur HO_4.out) (Kd.R_base ho24) hb); have n1_ := Aside0.mk (Kd.R_lower (Kd.R_new' ho24 (Kd.R_lt (ur HO_4.out))) (below_size (ul HB.out))); have n2_ := Aside0.mk (below_step (ul HB.out) hb); clear HO_4; clear HB; have HO_4 := n0_; have HO398 := n1_; have HB := n2_; clear n0_ n1_ n2_; clear hb ho24))
            go_ret2
            exact ⟨_, er, by (with_reducible repeat (first | apply Kd.R_alloc | apply Kd.R_drewN | apply Kd.R_drew)); exact Kd.R_mono HO398.out (fun _ hk => trivial), ul HB.out⟩
          ·
           rw [if_neg c18] at H
           exact absurd H (by simp)
         ·
          rw [if_neg c17] at H
          have c17b0 : decide (t386 < (a0.size : Int)) = false := decide_eq_false c17
          clear c17
          by_cases c25 : x4_1.length < 8796093022208
          ·
           rw [if_pos c25] at H
           have LMc25 := Aside0.mk c25
           clear c25
           obtain ⟨y399, hy399⟩ : ∃ y_ : List ByteArray, y_ = (x4_1 ++ [t385]) := ⟨_, rfl⟩
           replace H : (spec_l1Words.l0 k1 a0 y399 t386) = some (r1, r2) := by first | (rw [hy399]; with_reducible exact H) | (have H2_ := (Option.bind_some _ _).symm.trans H; rw [hy399]; with_reducible exact H2_) | (have H2_ := (Option.bind_some _ _).symm.trans H; with_reducible exact H2_) | with_reducible exact H | (rw [hy399]; exact H) | exact H
           have Ny399 := Aside0.mk hy399
           clear hy399
           have H' := Aside0.mk H
           clear H
           have p6 : 0 ≤ (x5_1 : Int) := of_decide_eq_true (by assumption)
           have q6 : x5_1 < (a0.size : Int) := of_decide_eq_true (by assumption)
           have hx6 := bt_at a0 x5_1
           replace p6 := eq_true p6
           replace q6 := eq_true q6
           have p8 : 0 ≤ (x5_1 : Int) := of_decide_eq_true (by assumption)
           have q8 : x5_1 < (a0.size : Int) := of_decide_eq_true (by assumption)
           have hx8 := bt_at a0 x5_1
           replace p8 := eq_true p8
           replace q8 := eq_true q8
           go_wp2_with (first | ((with_reducible refine gate_callee (f := 82) rfl ?_); refine goesL_ (some 27) rfl rfl Tryd.func82 (by kernel_rfl) rfl #[.string a0, .int .i64 x5_1] rfl ma ?_; (with_reducible refine (spec_l1Read.calls k1 a0 x5_1 t385 t386 _ A10.out).mono ?_); rintro e w' ⟨rfl, ⟨nd, rfl⟩⟩; refine ⟨_, rfl, ?_⟩) | ((with_reducible refine gate_builtin (b := .append) (xs := #[.tmp 65, .tmp 67]) rfl ?_); (try (refine gate_guard (by rfl) ?_; dsimp only)); at_builtin; refine Kd.R_append Kd.string (w0 := w) w.heap.size rfl (.tmp 65) (.tmp 67) 47 9 (.string ⟨#[]⟩) 16 rfl Tryd.underlying47 info9 rfl (by decide) (by omega) u4 x4_1 t385 [.string t385] (fun _ => True) (fun _ => False) rfl rfl ?aP (fun _ hk => hk.elim) ?aF ?aO ?aB ?aS ?aL ?_; (case aP => exact rfl); (case aB => exact (ul HB.out)); (case aF => exact (fun _ _ => trivial)); (case aO => exact (ur HO_4.out)); (case aS => exact (below_size (ul HB.out))); (case aL => have := LMc25.out; omega); intro v400 w26 ho hb hg hat; rw [← Ny399.out] at ho; have n0_ := Aside0.mk (hb); have n1_ := Aside0.mk (ho); clear HB; clear HO_4; have HB := n0_; have HO401 := n1_; clear n0_ n1_; clear ho hb hg hat))
           go_roundg k1
           case measure => have := HK1.out; omega
           case rel => exact ⟨(y399), (t386), rs, H', ⟨by have := HK1.out; omega⟩, ⟨ur HO401.out⟩, ⟨ul HB.out⟩⟩
          ·
           rw [if_neg c25] at H
           exact absurd H (by simp)
      ·
       rw [if_neg c9] at H
       have c9b0 : ((bt a0 x5_1) == 34) = false := beq_eq_false_iff_ne.mpr c9
       have c9b1 : ((bt a0 x5_1) != 34) = true := bne_iff_ne.mpr c9
       have H' := Aside0.mk H
       clear H
       have p6 : 0 ≤ (x5_1 : Int) := of_decide_eq_true (by assumption)
       have q6 : x5_1 < (a0.size : Int) := of_decide_eq_true (by assumption)
       have hx6 := bt_at a0 x5_1
       replace p6 := eq_true p6
       replace q6 := eq_true q6
       have p8 : 0 ≤ (x5_1 : Int) := of_decide_eq_true (by assumption)
       have q8 : x5_1 < (a0.size : Int) := of_decide_eq_true (by assumption)
       have hx8 := bt_at a0 x5_1
       replace p8 := eq_true p8
       replace q8 := eq_true q8
       go_wp2
       go_loopg [5] k1 (fun kq v5 w' => ∃ (x5_2 : Int), v5 = .int .i64 x5_2 ∧ Aside0 (spec_l1Words.l1 kq a0 x4_1 x5_2 x5_1 = some (r1, r2)) ∧ Aside0 (kq ≤ k1) ∧ Aside0 (Kd.R Kd.string 9 w' w.heap.size (fun _ => True) u4 x4_1) ∧ Aside0 (Below w.heap.size w w'))
       case atStart => exact ⟨(x5_1), rs, H', ⟨Nat.le_refl _⟩, ⟨ur HO_4.out⟩, ⟨ul HB.out⟩⟩
       case round =>
        clear H'
        try clear c1
        try clear p1
        try clear q1
        try clear hx1
        try clear c2
        try clear p2
        try clear c4
        try clear c4b0
        try clear c5
        try clear c5b0
        try clear p6
        try clear q6
        try clear hx6
        try clear c7
        try clear c7b0
        try clear c7b1
        try clear c8
        try clear p8
        try clear q8
        try clear hx8
        try clear c9
        try clear c9b0
        try clear c9b1
        try clear c11
        try clear c11b0
        try clear c14
        try clear c14b0
        try clear c14b1
        try clear c17
        try clear c17b0
        try clear c18
        try clear c18b0
        try clear p19
        try clear q19
        try clear hx19
        try clear c20
        try clear c20b0
        try clear c20b1
        try clear c21
        try clear c25
        try clear p19
        try clear p2
        try clear p6
        try clear p8
        try clear q19
        try clear q6
        try clear q8
        obtain ⟨x5_2, rfl, HA, HK2, HO_4, HB⟩ := hrel
        cases gk with
        | zero => exact absurd HA.out (by simp [spec_l1Words.l1])
        | succ k2 =>
         have H := HA.out
         clear HA
         simp only [spec_l1Words.l1] at H
         by_cases c27 : x5_2 < (a0.size : Int)
         ·
          rw [if_pos c27] at H
          have c27b0 : decide (x5_2 < (a0.size : Int)) = true := decide_eq_true c27
          clear c27
          by_cases c28 : 0 ≤ x5_2
          ·
           rw [if_pos c28] at H
           have c28b0 : decide (0 ≤ x5_2) = true := decide_eq_true c28
           clear c28
           replace H := Option.bind_eq_some_iff.mp H
           obtain ⟨t402, A300, H⟩ := H
           (try dsimp only at H)
           have A30 := Aside0.mk A300
           clear A300
           by_cases c31 : t402 = true
           ·
            subst c31
            rw [if_pos rfl] at H
            have H' := Aside0.mk H
            clear H
            have p29 : 0 ≤ (x5_2 : Int) := of_decide_eq_true (by assumption)
            have q29 : x5_2 < (a0.size : Int) := of_decide_eq_true (by assumption)
            have hx29 := bt_at a0 x5_2
            replace p29 := eq_true p29
            replace q29 := eq_true q29
            go_wp2_with (first | (go_at_call 83; (with_reducible refine (spec_l1Atom.calls k2 (bt a0 x5_2) true _ A30.out).mono ?_); rintro e w' ⟨rfl, ⟨nd, rfl⟩⟩))
            go_roundg k2
            case measure => have := HK1.out; have := HK2.out; omega
            case rel => exact ⟨(wrap64 (x5_2 + 1)), rs, H', ⟨by have := HK1.out; have := HK2.out; omega⟩, ⟨ur HO_4.out⟩, ⟨ul HB.out⟩⟩
           ·
            replace c31 := Bool.eq_false_iff.mpr c31
            subst c31
            rw [if_neg (show ¬ (false = true) by decide)] at H
            by_cases c32 : 0 ≤ x5_1
            ·
             rw [if_pos c32] at H
             have c32b0 := eq_true c32
             have c32b1 : decide (0 ≤ x5_1) = true := decide_eq_true c32
             clear c32
             by_cases c33 : x5_1 ≤ x5_2
             ·
              rw [if_pos c33] at H
              have c33b0 := eq_true c33
              have c33b1 : decide (x5_1 ≤ x5_2) = true := decide_eq_true c33
              clear c33
              by_cases c34 : x5_2 ≤ (a0.size : Int)
              ·
               rw [if_pos c34] at H
               have c34b0 := eq_true c34
               have c34b1 : decide (x5_2 ≤ (a0.size : Int)) = true := decide_eq_true c34
               clear c34
               by_cases c35 : x5_2 = x5_1
               ·
                rw [if_pos c35] at H
                have c35b0 : (x5_2 == x5_1) = true := beq_iff_eq.mpr c35
                have c35b1 : (x5_2 != x5_1) = false := bne_eq_false_iff_eq.mpr c35
                clear c35
                obtain ⟨y403, hy403⟩ : ∃ y_ : List ByteArray, y_ = (([] : List ByteArray)) := ⟨_, rfl⟩
                replace H : (some (y403, false)) = some (r1, r2) := by first | (rw [hy403]; with_reducible exact H) | (have H2_ := (Option.bind_some _ _).symm.trans H; rw [hy403]; with_reducible exact H2_) | (have H2_ := (Option.bind_some _ _).symm.trans H; with_reducible exact H2_) | with_reducible exact H | (rw [hy403]; exact H) | exact H
                have Ny403 := Aside0.mk hy403
                clear hy403
                simp only [Option.some.injEq, Prod.mk.injEq] at H
                obtain ⟨rfl, rfl⟩ := H
                have p29 : 0 ≤ (x5_2 : Int) := of_decide_eq_true (by assumption)
                have q29 : x5_2 < (a0.size : Int) := of_decide_eq_true (by assumption)
                have hx29 := bt_at a0 x5_2
                replace p29 := eq_true p29
                replace q29 := eq_true q29
                go_wp2_with (first | (go_at_call 83; (with_reducible refine (spec_l1Atom.calls k2 (bt a0 x5_2) false _ A30.out).mono ?_); rintro e w' ⟨rfl, ⟨nd, rfl⟩⟩) | ((with_reducible refine gate_dst (N := 64) rfl ?_); (try (refine gate_guard (by rfl) ?_; dsimp only)); refine Kd.R_lit Kd.string _ 9 ?hg (N := 64) ?hd (xs := ([] : List ByteArray)) (inner := []) (ok := fun _ => True) (okp := fun _ => True) ?hr ?hp (fun _ hk => hk) trivial (Below.refl _ _) (Nat.le_refl _) (by simp) ?_; (case hd => rfl); (case hg => rfl); (case hr => first | (go_simp; done) | (go_simp; rfl)); (case hp => exact (Reps.none _ _)); intro v404 w36 ho37 hb hg_ hnew_; clear hg_ hnew_; (first | rw [← Ny403.out] at ho37 | (simp only [Int.reduceToNat] at ho37; rw [← Ny403.out] at ho37)); have n0_ := Aside0.mk (Kd.R_elder' (ur HO_4.out) (Kd.R_base ho37) hb); have n1_ := Aside0.mk (Kd.R_lower (Kd.R_new' ho37 (Kd.R_lt (ur HO_4.out))) (below_size (ul HB.out))); have n2_ := Aside0.mk (below_step (ul HB.out) hb); clear HO_4; clear HB; have HO_4 := n0_; have HO405 := n1_; have HB := n2_; clear n0_ n1_ n2_; clear hb ho37))
                go_ret2
                exact ⟨_, er, by (with_reducible repeat (first | apply Kd.R_alloc | apply Kd.R_drewN | apply Kd.R_drew)); exact Kd.R_mono HO405.out (fun _ hk => trivial), ul HB.out⟩
               ·
                rw [if_neg c35] at H
                have c35b0 : (x5_2 == x5_1) = false := beq_eq_false_iff_ne.mpr c35
                have c35b1 : (x5_2 != x5_1) = true := bne_iff_ne.mpr c35
                by_cases c39 : (bt a0 x5_2) = 32
                ·
                 rw [if_pos c39] at H
                 have c39b0 : ((bt a0 x5_2) == 32) = true := beq_iff_eq.mpr c39
                 have c39b1 : ((bt a0 x5_2) != 32) = false := bne_eq_false_iff_eq.mpr c39
                 clear c39
                 by_cases c40 : x4_1.length < 8796093022208
                 ·
                  rw [if_pos c40] at H
                  have LMc40 := Aside0.mk c40
                  clear c40
                  obtain ⟨y406, hy406⟩ : ∃ y_ : List ByteArray, y_ = (x4_1 ++ [a0.extract (x5_1 : Int).toNat (x5_2 : Int).toNat]) := ⟨_, rfl⟩
                  replace H : (spec_l1Words.l0 k2 a0 y406 x5_2) = some (r1, r2) := by first | (rw [hy406]; with_reducible exact H) | (have H2_ := (Option.bind_some _ _).symm.trans H; rw [hy406]; with_reducible exact H2_) | (have H2_ := (Option.bind_some _ _).symm.trans H; with_reducible exact H2_) | with_reducible exact H | (rw [hy406]; exact H) | exact H
                  have Ny406 := Aside0.mk hy406
                  clear hy406
                  have H' := Aside0.mk H
                  clear H
                  have p29 : 0 ≤ (x5_2 : Int) := of_decide_eq_true (by assumption)
                  have q29 : x5_2 < (a0.size : Int) := of_decide_eq_true (by assumption)
                  have hx29 := bt_at a0 x5_2
                  replace p29 := eq_true p29
                  replace q29 := eq_true q29
                  go_wp2_with (first | (go_at_call 83; (with_reducible refine (spec_l1Atom.calls k2 (bt a0 x5_2) false _ A30.out).mono ?_); rintro e w' ⟨rfl, ⟨nd, rfl⟩⟩; have p38 : 0 ≤ (x5_2 : Int) := of_decide_eq_true (by assumption); have q38 : x5_2 < (a0.size : Int) := of_decide_eq_true (by assumption); have hx38 := bt_at a0 x5_2; replace p38 := eq_true p38; replace q38 := eq_true q38) | ((with_reducible refine gate_builtin (b := .append) (xs := #[.tmp 65, .tmp 67]) rfl ?_); (try (refine gate_guard (by rfl) ?_; dsimp only)); at_builtin; refine Kd.R_append Kd.string (w0 := w) w.heap.size rfl (.tmp 65) (.tmp 67) 47 9 (.string ⟨#[]⟩) 16 rfl Tryd.underlying47 info9 rfl (by decide) (by omega) u4 x4_1 (a0.extract (x5_1 : Int).toNat (x5_2 : Int).toNat) [.string (a0.extract (x5_1 : Int).toNat (x5_2 : Int).toNat)] (fun _ => True) (fun _ => False) rfl rfl ?aP (fun _ hk => hk.elim) ?aF ?aO ?aB ?aS ?aL ?_; (case aP => exact rfl); (case aB => exact (ul HB.out)); (case aF => exact (fun _ _ => trivial)); (case aO => exact (ur HO_4.out)); (case aS => exact (below_size (ul HB.out))); (case aL => have := LMc40.out; omega); intro v407 w41 ho hb hg hat; rw [← Ny406.out] at ho; have n0_ := Aside0.mk (hb); have n1_ := Aside0.mk (ho); clear HB; clear HO_4; have HB := n0_; have HO408 := n1_; clear n0_ n1_; clear ho hb hg hat))
                  go_roundg k2
                  case measure => have := HK1.out; have := HK2.out; omega
                  case rel => exact ⟨(y406), (x5_2), rs, H', ⟨by have := HK1.out; have := HK2.out; omega⟩, ⟨ur HO408.out⟩, ⟨ul HB.out⟩⟩
                 ·
                  rw [if_neg c40] at H
                  exact absurd H (by simp)
                ·
                 rw [if_neg c39] at H
                 have c39b0 : ((bt a0 x5_2) == 32) = false := beq_eq_false_iff_ne.mpr c39
                 have c39b1 : ((bt a0 x5_2) != 32) = true := bne_iff_ne.mpr c39
                 obtain ⟨y409, hy409⟩ : ∃ y_ : List ByteArray, y_ = (([] : List ByteArray)) := ⟨_, rfl⟩
                 replace H : (some (y409, false)) = some (r1, r2) := by first | (rw [hy409]; with_reducible exact H) | (have H2_ := (Option.bind_some _ _).symm.trans H; rw [hy409]; with_reducible exact H2_) | (have H2_ := (Option.bind_some _ _).symm.trans H; with_reducible exact H2_) | with_reducible exact H | (rw [hy409]; exact H) | exact H
                 have Ny409 := Aside0.mk hy409
                 clear hy409
                 simp only [Option.some.injEq, Prod.mk.injEq] at H
                 obtain ⟨rfl, rfl⟩ := H
                 have p29 : 0 ≤ (x5_2 : Int) := of_decide_eq_true (by assumption)
                 have q29 : x5_2 < (a0.size : Int) := of_decide_eq_true (by assumption)
                 have hx29 := bt_at a0 x5_2
                 replace p29 := eq_true p29
                 replace q29 := eq_true q29
                 go_wp2_with (first | (go_at_call 83; (with_reducible refine (spec_l1Atom.calls k2 (bt a0 x5_2) false _ A30.out).mono ?_); rintro e w' ⟨rfl, ⟨nd, rfl⟩⟩; have p38 : 0 ≤ (x5_2 : Int) := of_decide_eq_true (by assumption); have q38 : x5_2 < (a0.size : Int) := of_decide_eq_true (by assumption); have hx38 := bt_at a0 x5_2; replace p38 := eq_true p38; replace q38 := eq_true q38) | ((with_reducible refine gate_dst (N := 64) rfl ?_); (try (refine gate_guard (by rfl) ?_; dsimp only)); refine Kd.R_lit Kd.string _ 9 ?hg (N := 64) ?hd (xs := ([] : List ByteArray)) (inner := []) (ok := fun _ => True) (okp := fun _ => True) ?hr ?hp (fun _ hk => hk) trivial (Below.refl _ _) (Nat.le_refl _) (by simp) ?_; (case hd => rfl); (case hg => rfl); (case hr => first | (go_simp; done) | (go_simp; rfl)); (case hp => exact (Reps.none _ _)); intro v410 w42 ho43 hb hg_ hnew_; clear hg_ hnew_; (first | rw [← Ny409.out] at ho43 | (simp only [Int.reduceToNat] at ho43; rw [← Ny409.out] at ho43)); have n0_ := Aside0.mk (Kd.R_elder' (ur HO_4.out) (Kd.R_base ho43) hb); have n1_ := Aside0.mk (Kd.R_lower (Kd.R_new' ho43 (Kd.R_lt (ur HO_4.out))) (below_size (ul HB.out))); have n2_ := Aside0.mk (below_step (ul HB.out) hb); clear HO_4; clear HB; have HO_4 := n0_; have HO411 := n1_; have HB := n2_; clear n0_ n1_ n2_; clear hb ho43))
                 go_ret2
                 exact ⟨_, er, by (with_reducible repeat (first | apply Kd.R_alloc | apply Kd.R_drewN | apply Kd.R_drew)); exact Kd.R_mono HO411.out (fun _ hk => trivial), ul HB.out⟩
              ·
               rw [if_neg c34] at H
               exact absurd H (by simp)
             ·
              rw [if_neg c33] at H
              exact absurd H (by simp)
            ·
             rw [if_neg c32] at H
             exact absurd H (by simp)
          ·
           rw [if_neg c28] at H
           exact absurd H (by simp)
         ·
          rw [if_neg c27] at H
          have c27b0 : decide (x5_2 < (a0.size : Int)) = false := decide_eq_false c27
          clear c27
          by_cases c44 : 0 ≤ x5_1
          ·
           rw [if_pos c44] at H
           have c44b0 := eq_true c44
           have c44b1 : decide (0 ≤ x5_1) = true := decide_eq_true c44
           clear c44
           by_cases c45 : x5_1 ≤ x5_2
           ·
            rw [if_pos c45] at H
            have c45b0 := eq_true c45
            have c45b1 : decide (x5_1 ≤ x5_2) = true := decide_eq_true c45
            clear c45
            by_cases c46 : x5_2 ≤ (a0.size : Int)
            ·
             rw [if_pos c46] at H
             have c46b0 := eq_true c46
             have c46b1 : decide (x5_2 ≤ (a0.size : Int)) = true := decide_eq_true c46
             clear c46
             by_cases c47 : x5_2 = x5_1
             ·
              rw [if_pos c47] at H
              have c47b0 : (x5_2 == x5_1) = true := beq_iff_eq.mpr c47
              have c47b1 : (x5_2 != x5_1) = false := bne_eq_false_iff_eq.mpr c47
              clear c47
              obtain ⟨y412, hy412⟩ : ∃ y_ : List ByteArray, y_ = (([] : List ByteArray)) := ⟨_, rfl⟩
              replace H : (some (y412, false)) = some (r1, r2) := by first | (rw [hy412]; with_reducible exact H) | (have H2_ := (Option.bind_some _ _).symm.trans H; rw [hy412]; with_reducible exact H2_) | (have H2_ := (Option.bind_some _ _).symm.trans H; with_reducible exact H2_) | with_reducible exact H | (rw [hy412]; exact H) | exact H
              have Ny412 := Aside0.mk hy412
              clear hy412
              simp only [Option.some.injEq, Prod.mk.injEq] at H
              obtain ⟨rfl, rfl⟩ := H
              go_wp2_with (first | ((with_reducible refine gate_dst (N := 64) rfl ?_); (try (refine gate_guard (by rfl) ?_; dsimp only)); refine Kd.R_lit Kd.string _ 9 ?hg (N := 64) ?hd (xs := ([] : List ByteArray)) (inner := []) (ok := fun _ => True) (okp := fun _ => True) ?hr ?hp (fun _ hk => hk) trivial (Below.refl _ _) (Nat.le_refl _) (by simp) ?_; (case hd => rfl); (case hg => rfl); (case hr => first | (go_simp; done) | (go_simp; rfl)); (case hp => exact (Reps.none _ _)); intro v413 w48 ho49 hb hg_ hnew_; clear hg_ hnew_; (first | rw [← Ny412.out] at ho49 | (simp only [Int.reduceToNat] at ho49; rw [← Ny412.out] at ho49)); have n0_ := Aside0.mk (Kd.R_elder' (ur HO_4.out) (Kd.R_base ho49) hb); have n1_ := Aside0.mk (Kd.R_lower (Kd.R_new' ho49 (Kd.R_lt (ur HO_4.out))) (below_size (ul HB.out))); have n2_ := Aside0.mk (below_step (ul HB.out) hb); clear HO_4; clear HB; have HO_4 := n0_; have HO414 := n1_; have HB := n2_; clear n0_ n1_ n2_; clear hb ho49))
              go_ret2
              exact ⟨_, er, by (with_reducible repeat (first | apply Kd.R_alloc | apply Kd.R_drewN | apply Kd.R_drew)); exact Kd.R_mono HO414.out (fun _ hk => trivial), ul HB.out⟩
             ·
              rw [if_neg c47] at H
              have c47b0 : (x5_2 == x5_1) = false := beq_eq_false_iff_ne.mpr c47
              have c47b1 : (x5_2 != x5_1) = true := bne_iff_ne.mpr c47
              by_cases c50 : x4_1.length < 8796093022208
              ·
               rw [if_pos c50] at H
               have LMc50 := Aside0.mk c50
               clear c50
               obtain ⟨y415, hy415⟩ : ∃ y_ : List ByteArray, y_ = (x4_1 ++ [a0.extract (x5_1 : Int).toNat (x5_2 : Int).toNat]) := ⟨_, rfl⟩
               replace H : (spec_l1Words.l0 k2 a0 y415 x5_2) = some (r1, r2) := by first | (rw [hy415]; with_reducible exact H) | (have H2_ := (Option.bind_some _ _).symm.trans H; rw [hy415]; with_reducible exact H2_) | (have H2_ := (Option.bind_some _ _).symm.trans H; with_reducible exact H2_) | with_reducible exact H | (rw [hy415]; exact H) | exact H
               have Ny415 := Aside0.mk hy415
               clear hy415
               have H' := Aside0.mk H
               clear H
               go_wp2_with (first | ((with_reducible refine gate_builtin (b := .append) (xs := #[.tmp 65, .tmp 67]) rfl ?_); (try (refine gate_guard (by rfl) ?_; dsimp only)); at_builtin; refine Kd.R_append Kd.string (w0 := w) w.heap.size rfl (.tmp 65) (.tmp 67) 47 9 (.string ⟨#[]⟩) 16 rfl Tryd.underlying47 info9 rfl (by decide) (by omega) u4 x4_1 (a0.extract (x5_1 : Int).toNat (x5_2 : Int).toNat) [.string (a0.extract (x5_1 : Int).toNat (x5_2 : Int).toNat)] (fun _ => True) (fun _ => False) rfl rfl ?aP (fun _ hk => hk.elim) ?aF ?aO ?aB ?aS ?aL ?_; (case aP => exact rfl); (case aB => exact (ul HB.out)); (case aF => exact (fun _ _ => trivial)); (case aO => exact (ur HO_4.out)); (case aS => exact (below_size (ul HB.out))); (case aL => have := LMc50.out; omega); intro v416 w51 ho hb hg hat; rw [← Ny415.out] at ho; have n0_ := Aside0.mk (hb); have n1_ := Aside0.mk (ho); clear HB; clear HO_4; have HB := n0_; have HO417 := n1_; clear n0_ n1_; clear ho hb hg hat))
               go_roundg k2
               case measure => have := HK1.out; have := HK2.out; omega
               case rel => exact ⟨(y415), (x5_2), rs, H', ⟨by have := HK1.out; have := HK2.out; omega⟩, ⟨ur HO417.out⟩, ⟨ul HB.out⟩⟩
              ·
               rw [if_neg c50] at H
               exact absurd H (by simp)
            ·
             rw [if_neg c46] at H
             exact absurd H (by simp)
           ·
            rw [if_neg c45] at H
            exact absurd H (by simp)
          ·
           rw [if_neg c44] at H
           exact absurd H (by simp)
    ·
     rw [if_neg c5] at H
     exact absurd H (by simp)
   ·
    rw [if_neg c4] at H
    have c4b0 : decide (x5_1 < (a0.size : Int)) = false := decide_eq_false c4
    clear c4
    simp only [Option.some.injEq, Prod.mk.injEq] at H
    obtain ⟨rfl, rfl⟩ := H
    go_wp2
    go_ret2
    exact ⟨_, er, by (with_reducible repeat (first | apply Kd.R_alloc | apply Kd.R_drewN | apply Kd.R_drew)); exact HO_4.out, ul HB.out⟩

end Go.Proofs.YtengipddcaookaaDoor.PFnKindText
