/- Written by a program of this session out of the translation: each Go function named below as a Lean function, and the proof that the call answers as that function does; conditions: those in each statement. -/
import Derived.Test.YtengipddcaookaaDoorVFnKindCapitalYt
import Derived.Test.YtengipddcaookaaDoorPFnKindCapitalx0
import Derived.Test.YtengipddcaookaaDoorPFnKindCapitalx12
import Derived.Test.YtengipddcaookaaDoorPFnKindCapitalx13
-- short
-- dense
namespace Go.Proofs.YtengipddcaookaaDoor.PFnKindCapital
open Go.RowKit Go.Proofs.YtengipddcaookaaDoor.X Go.Proofs.YtengipddcaookaaDoorW.PrintWords Go.Proofs.YtengipddcaookaaDoorW.PrintLast Go.Proofs.YtengipddcaookaaDoorW.PrintMore
attribute [local go_sem] max2_int min2_int max_two min_two max_three min_three max_four min_four   -- for this text's walks alone
set_option linter.unusedVariables false
set_option linter.unusedSimpArgs false

/-! ### spec_FormatKind: function 15 -/
def spec_FormatKind.l0 : Nat → ByteArray → Int → ByteArray → ByteArray → List (S29) → Option (ByteArray)
 | 0, _, _, _, _, _ => none
 | k + 1, x3, x4, x376000, x376001, x376002 => if x4 < (x376002.length : Int) then (if x3.size + 2 ≤ 9223372036854775807 then (if 0 ≤ x4 then (if (x3 ++ (⟨#[59, 32]⟩ : ByteArray)).size + ((rd_T29 x376002 x4).f0).size ≤ 9223372036854775807 then (if ((x3 ++ (⟨#[59, 32]⟩ : ByteArray)) ++ ((rd_T29 x376002 x4).f0)).size + 1 ≤ 9223372036854775807 then ((spec_QuoteWord.f k ((rd_T29 x376002 x4).f1)).bind fun t379 => (if (((x3 ++ (⟨#[59, 32]⟩ : ByteArray)) ++ ((rd_T29 x376002 x4).f0)) ++ (⟨#[61]⟩ : ByteArray)).size + t379.size ≤ 9223372036854775807 then (spec_FormatKind.l0 k ((((x3 ++ (⟨#[59, 32]⟩ : ByteArray)) ++ ((rd_T29 x376002 x4).f0)) ++ (⟨#[61]⟩ : ByteArray)) ++ t379) (wrap64 (x4 + 1)) x376000 x376001 x376002) else (none))) else (none)) else (none)) else (none)) else (none)) else (some x3)
def spec_FormatKind.f (k : Nat) (a0_0 : ByteArray) (a0_1 : ByteArray) (l0_2 : List (S29)) : Option (ByteArray) := (spec_KindValid.f k a0_0 a0_1 l0_2).bind fun t376 => (if t376 = true then (if a0_0.size + 1 ≤ 9223372036854775807 then (if (a0_0 ++ (⟨#[47]⟩ : ByteArray)).size + a0_1.size ≤ 9223372036854775807 then (spec_FormatKind.l0 k ((a0_0 ++ (⟨#[47]⟩ : ByteArray)) ++ a0_1) 0 a0_0 a0_1 l0_2) else (none)) else (none)) else (some (⟨#[]⟩ : ByteArray)))
def spec_FormatKind.T7 : Bool × List (List Nat × List Nat) := (true, [([], []), ([0], [0]), ([], []), ([2], [2]), ([], []), ([3, 4], [3, 4]), ([5], [5]), ([6], [6]), ([1, 7], [1, 7]), ([8], [8]), ([], []), ([10], [10]), ([], []), ([11, 12], [11, 12]), ([13], [13]), ([14], [14]), ([15], [15]), ([9, 16], [9, 16]), ([17, 16, 0, 1, 2, 3, 4, 5, 6, 7, 8, 9, 10, 11, 12, 13, 14, 15, 16, 17], [0, 17])])
def spec_FormatKind.B7 : List Nat := [0, 1, 0, 4, 0, 28, 60, 124, 255, 511, 0, 1024, 0, 7168, 15360, 31744, 64512, 131071, 262143]
theorem spec_FormatKind.tab7 : rtab .any (opsOf Tryd.f15 7) = spec_FormatKind.T7 := by kernel_rfl
theorem spec_FormatKind.bits7 : waitsOk spec_FormatKind.T7.2 spec_FormatKind.B7 = true := by kernel_rfl
set_option maxHeartbeats 8000000 in
set_option maxRecDepth 100000 in
theorem spec_FormatKind.calls (k : Nat) (a0_0 : ByteArray) (a0_1 : ByteArray) (A0_2 : Option Addr) (c0_2 : Nat) (l0_2 : List (S29)) (r : ByteArray) (w : World) (hr0_2 : Kd.C k29 w A0_2 l0_2.length l0_2) (hc0_2 : l0_2.length ≤ c0_2) (h : spec_FormatKind.f k a0_0 a0_1 l0_2 = some r) :
  Calls Tryd.prog 15 #[.agg #[.string a0_0, .string a0_1, .slice A0_2 l0_2.length c0_2]] w fun e w' => e = .returned (.string r) ∧ Below w.heap.size w w' := by
 have hu25 := Tryd.underlying25
 have HR0_2 := Aside0.mk hr0_2
 have HC0_2 := Aside0.mk hc0_2
 clear hr0_2 hc0_2
 have HB := Aside0.mk (Below.refl w.heap.size w)
 have H : ((spec_KindValid.f k a0_0 a0_1 l0_2).bind fun t376 => (if t376 = true then (if a0_0.size + 1 ≤ 9223372036854775807 then (if (a0_0 ++ (⟨#[47]⟩ : ByteArray)).size + a0_1.size ≤ 9223372036854775807 then (spec_FormatKind.l0 k ((a0_0 ++ (⟨#[47]⟩ : ByteArray)) ++ a0_1) 0 a0_0 a0_1 l0_2) else (none)) else (none)) else (some (⟨#[]⟩ : ByteArray)))) = some r := h
 clear h
 replace H := Option.bind_eq_some_iff.mp H
 obtain ⟨t376, A20, H⟩ := H
 replace H : (if t376 = true then (if a0_0.size + 1 ≤ 9223372036854775807 then (if (a0_0 ++ (⟨#[47]⟩ : ByteArray)).size + a0_1.size ≤ 9223372036854775807 then (spec_FormatKind.l0 k ((a0_0 ++ (⟨#[47]⟩ : ByteArray)) ++ a0_1) 0 a0_0 a0_1 l0_2) else (none)) else (none)) else (some (⟨#[]⟩ : ByteArray))) = some r := H
 have A2 := Aside0.mk A20
 clear A20
 by_cases c3 : t376 = true
 ·
  subst c3
  have H1 : (if a0_0.size + 1 ≤ 9223372036854775807 then (if (a0_0 ++ (⟨#[47]⟩ : ByteArray)).size + a0_1.size ≤ 9223372036854775807 then (spec_FormatKind.l0 k ((a0_0 ++ (⟨#[47]⟩ : ByteArray)) ++ a0_1) 0 a0_0 a0_1 l0_2) else (none)) else (none)) = some r := by rw [if_pos rfl] at H; exact H
  clear H
  have H := H1
  clear H1
  by_cases c4 : a0_0.size + 1 ≤ 9223372036854775807
  ·
   rw [if_pos c4] at H
   have c4b0 := eq_true c4
   have c4b1 : decide (a0_0.size + 1 ≤ 9223372036854775807) = true := decide_eq_true c4
   try have c4b2 : (9223372036854775807 < a0_0.size + 1) = False := eq_false (Nat.not_lt.2 c4)
   by_cases c5 : (a0_0 ++ (⟨#[47]⟩ : ByteArray)).size + a0_1.size ≤ 9223372036854775807
   ·
    rw [if_pos c5] at H
    have c5b0 := eq_true c5
    have c5b1 : decide ((a0_0 ++ (⟨#[47]⟩ : ByteArray)).size + a0_1.size ≤ 9223372036854775807) = true := decide_eq_true c5
    try have c5b3 : (9223372036854775807 < a0_0.size + 1 + a0_1.size) = False := by have h_ := (eq_false (Nat.not_lt.2 c5) : (9223372036854775807 < (a0_0 ++ (⟨#[47]⟩ : ByteArray)).size + a0_1.size) = False); simp only [ByteArray.size_append] at h_; exact h_
    try have c5b2 : (9223372036854775807 < (a0_0 ++ (⟨#[47]⟩ : ByteArray)).size + a0_1.size) = False := eq_false (Nat.not_lt.2 c5)
    have H' := Aside0.mk H
    clear H
    go_enter Tryd.func15, Tryd.ntmps15
    go_wp2_with (first | ((with_reducible refine gate_dst (N := 1) rfl ?_); refine box_event ?hg (N := 1) ?hd (cs := #[.string a0_0, .string a0_1, .slice A0_2 l0_2.length c0_2]) (t := 25) ?hr ?_; (case hd => rfl); (case hg => rfl); (case hr => first | (go_simp; done) | (go_simp; rfl)); intro gb375 hg w6 hbox hb; have n0_ := Aside0.mk (below_step (ul HB.out) hb); have n1_ := Aside0.mk (hbox); have n2_ := Aside0.mk ((by rw [hg]; exact (below_size (ul HB.out)) : w.heap.size ≤ gb375)); have n3_ := Aside0.mk ((by rw [hg]; exact (below_size (ul HB.out)) : w.heap.size ≤ gb375)); clear HB; have HB := n0_; have BK375 := n1_; have GW375 := n2_; have GE375 := n3_; clear n0_ n1_ n2_ n3_; clear hb hbox hg; have hcz7_0 : w6.cell? ⟨gb375, 0, none⟩ = some (.string a0_0) := (blk_cell BK375.out 0).trans rfl; have hcz7_1 : w6.cell? ⟨gb375, 1, none⟩ = some (.string a0_1) := (blk_cell BK375.out 1).trans rfl; have hcz7_2 : w6.cell? ⟨gb375, 2, none⟩ = some (.slice A0_2 l0_2.length c0_2) := (blk_cell BK375.out 2).trans rfl; have hfz7_0 := blk_frozen BK375.out 0; have hfz7_1 := blk_frozen BK375.out 1; have hfz7_2 := blk_frozen BK375.out 2) | ((with_reducible refine gate_callee (f := 10) rfl ?_); refine goesL_ (some 6) rfl rfl Tryd.func10 (by kernel_rfl) rfl #[.agg #[.string a0_0, .string a0_1, .slice A0_2 l0_2.length c0_2]] rfl ma ?_; (with_reducible refine (spec_KindValid.calls k a0_0 a0_1 _ _ l0_2 true _ ?side1 ?side2 A2.out).mono ?_); (case side1 => repeat (first | exact (Kd.C_below HR0_2.out HB.out) | (with_reducible refine Kd.C_alloc ?_ _) | (with_reducible refine Kd.C_drewN ?_ _) | (with_reducible refine Kd.C_drew ?_))); (case side2 => exact HC0_2.out); rintro e w8 ⟨rfl, hb⟩; refine ⟨_, rfl, ?_⟩; have n0_ := Aside0.mk (blk_below (g := gb375) (o := .cells #[.string a0_0, .string a0_1, .slice A0_2 l0_2.length c0_2] 25 (0, 0)) (ub BK375.out) hb); have n1_ := Aside0.mk (below_step bb hb); clear BK375; clear HB; have BK375 := n0_; have HB := n1_; clear n0_ n1_; (try clear hb); (try clear hb2); (try clear hk); (try clear hi); have hcz9_0 : w8.cell? ⟨gb375, 0, none⟩ = some (.string a0_0) := (blk_cell BK375.out 0).trans rfl; have hcz9_1 : w8.cell? ⟨gb375, 1, none⟩ = some (.string a0_1) := (blk_cell BK375.out 1).trans rfl; have hcz9_2 : w8.cell? ⟨gb375, 2, none⟩ = some (.slice A0_2 l0_2.length c0_2) := (blk_cell BK375.out 2).trans rfl; have hfz9_0 := blk_frozen BK375.out 0; have hfz9_1 := blk_frozen BK375.out 1; have hfz9_2 := blk_frozen BK375.out 2))
    go_loopg [3, 4] k (fun kq v3 v4 w' => ∃ (x3_1 : ByteArray) (x4_1 : Int), v3 = .string x3_1 ∧ v4 = .int .i64 x4_1 ∧ Aside0 (spec_FormatKind.l0 kq x3_1 x4_1 a0_0 a0_1 l0_2 = some r) ∧ Aside0 (kq ≤ k) ∧ Aside0 (w'.heap[gb375]? = some (.cells #[.string a0_0, .string a0_1, (.slice A0_2 l0_2.length c0_2)] 25 (0, 0))) ∧ Aside0 (Below w.heap.size w w'))
    case atStart => exact ⟨((a0_0 ++ (⟨#[47]⟩ : ByteArray)) ++ a0_1), (0), (by first | rfl | (simp; done) | (simp [*]; done)), (by first | rfl | (simp; done) | (simp [*]; done)), H', ⟨Nat.le_refl _⟩, ⟨ub BK375.out⟩, ⟨bb⟩⟩
    case round =>
     clear H'
     try clear c1
     try clear p2
     try clear c3
     try clear c4
     try clear c4b0
     try clear c4b1
     try clear c4b2
     try clear c5
     try clear c5b0
     try clear c5b1
     try clear c5b2
     try clear hcz7_0
     try clear hcz7_1
     try clear hcz7_2
     try clear hcz9_0
     try clear hcz9_1
     try clear hcz9_2
     try clear hfz7_0
     try clear hfz7_1
     try clear hfz7_2
     try clear hfz9_0
     try clear hfz9_1
     try clear hfz9_2
     obtain ⟨x3_1, x4_1, rfl, rfl, HA, HK1, BK375, HB⟩ := hrel
     cases gk with
     | zero => exact absurd HA.out (by simp [spec_FormatKind.l0])
     | succ k1 =>
      have H := HA.out
      clear HA
      simp only [spec_FormatKind.l0] at H
      by_cases c10 : x4_1 < (l0_2.length : Int)
      ·
       rw [if_pos c10] at H
       have c10b0 : decide (x4_1 < (l0_2.length : Int)) = true := decide_eq_true c10
       clear c10
       by_cases c11 : x3_1.size + 2 ≤ 9223372036854775807
       ·
        rw [if_pos c11] at H
        have c11b0 := eq_true c11
        have c11b1 : decide (x3_1.size + 2 ≤ 9223372036854775807) = true := decide_eq_true c11
        try have c11b2 : (9223372036854775807 < x3_1.size + 2) = False := eq_false (Nat.not_lt.2 c11)
        by_cases c12 : 0 ≤ x4_1
        ·
         rw [if_pos c12] at H
         have c12b0 : decide (0 ≤ x4_1) = true := decide_eq_true c12
         clear c12
         by_cases c13 : (x3_1 ++ (⟨#[59, 32]⟩ : ByteArray)).size + ((rd_T29 l0_2 x4_1).f0).size ≤ 9223372036854775807
         ·
          rw [if_pos c13] at H
          have c13b0 := eq_true c13
          have c13b1 : decide ((x3_1 ++ (⟨#[59, 32]⟩ : ByteArray)).size + ((rd_T29 l0_2 x4_1).f0).size ≤ 9223372036854775807) = true := decide_eq_true c13
          try have c13b3 : (9223372036854775807 < x3_1.size + 2 + ((rd_T29 l0_2 x4_1).f0).size) = False := by have h_ := (eq_false (Nat.not_lt.2 c13) : (9223372036854775807 < (x3_1 ++ (⟨#[59, 32]⟩ : ByteArray)).size + ((rd_T29 l0_2 x4_1).f0).size) = False); simp only [ByteArray.size_append] at h_; exact h_
          try have c13b2 : (9223372036854775807 < (x3_1 ++ (⟨#[59, 32]⟩ : ByteArray)).size + ((rd_T29 l0_2 x4_1).f0).size) = False := eq_false (Nat.not_lt.2 c13)
          by_cases c14 : ((x3_1 ++ (⟨#[59, 32]⟩ : ByteArray)) ++ ((rd_T29 l0_2 x4_1).f0)).size + 1 ≤ 9223372036854775807
          ·
           rw [if_pos c14] at H
           have c14b0 := eq_true c14
           have c14b1 : decide (((x3_1 ++ (⟨#[59, 32]⟩ : ByteArray)) ++ ((rd_T29 l0_2 x4_1).f0)).size + 1 ≤ 9223372036854775807) = true := decide_eq_true c14
           try have c14b3 : (9223372036854775807 < x3_1.size + 2 + ((rd_T29 l0_2 x4_1).f0).size + 1) = False := by have h_ := (eq_false (Nat.not_lt.2 c14) : (9223372036854775807 < ((x3_1 ++ (⟨#[59, 32]⟩ : ByteArray)) ++ ((rd_T29 l0_2 x4_1).f0)).size + 1) = False); simp only [ByteArray.size_append] at h_; exact h_
           try have c14b2 : (9223372036854775807 < ((x3_1 ++ (⟨#[59, 32]⟩ : ByteArray)) ++ ((rd_T29 l0_2 x4_1).f0)).size + 1) = False := eq_false (Nat.not_lt.2 c14)
           replace H := Option.bind_eq_some_iff.mp H
           obtain ⟨t379, A150, H⟩ := H
           replace H : (if (((x3_1 ++ (⟨#[59, 32]⟩ : ByteArray)) ++ ((rd_T29 l0_2 x4_1).f0)) ++ (⟨#[61]⟩ : ByteArray)).size + t379.size ≤ 9223372036854775807 then (spec_FormatKind.l0 k1 ((((x3_1 ++ (⟨#[59, 32]⟩ : ByteArray)) ++ ((rd_T29 l0_2 x4_1).f0)) ++ (⟨#[61]⟩ : ByteArray)) ++ t379) (wrap64 (x4_1 + 1)) a0_0 a0_1 l0_2) else (none)) = some r := H
           have A15 := Aside0.mk A150
           clear A150
           by_cases c16 : (((x3_1 ++ (⟨#[59, 32]⟩ : ByteArray)) ++ ((rd_T29 l0_2 x4_1).f0)) ++ (⟨#[61]⟩ : ByteArray)).size + t379.size ≤ 9223372036854775807
           ·
            rw [if_pos c16] at H
            have c16b0 := eq_true c16
            have c16b1 : decide ((((x3_1 ++ (⟨#[59, 32]⟩ : ByteArray)) ++ ((rd_T29 l0_2 x4_1).f0)) ++ (⟨#[61]⟩ : ByteArray)).size + t379.size ≤ 9223372036854775807) = true := decide_eq_true c16
            try have c16b3 : (9223372036854775807 < x3_1.size + 2 + ((rd_T29 l0_2 x4_1).f0).size + 1 + t379.size) = False := by have h_ := (eq_false (Nat.not_lt.2 c16) : (9223372036854775807 < (((x3_1 ++ (⟨#[59, 32]⟩ : ByteArray)) ++ ((rd_T29 l0_2 x4_1).f0)) ++ (⟨#[61]⟩ : ByteArray)).size + t379.size) = False); simp only [ByteArray.size_append] at h_; exact h_
            try have c16b2 : (9223372036854775807 < (((x3_1 ++ (⟨#[59, 32]⟩ : ByteArray)) ++ ((rd_T29 l0_2 x4_1).f0)) ++ (⟨#[61]⟩ : ByteArray)).size + t379.size) = False := eq_false (Nat.not_lt.2 c16)
            have H' := Aside0.mk H
            clear H
            have hcz17_0 : wr.cell? ⟨gb375, 0, none⟩ = some (.string a0_0) := (blk_cell BK375.out 0).trans rfl
            have hcz17_1 : wr.cell? ⟨gb375, 1, none⟩ = some (.string a0_1) := (blk_cell BK375.out 1).trans rfl
            have hcz17_2 : wr.cell? ⟨gb375, 2, none⟩ = some (.slice A0_2 l0_2.length c0_2) := (blk_cell BK375.out 2).trans rfl
            have hfz17_0 := blk_frozen BK375.out 0
            have hfz17_1 := blk_frozen BK375.out 1
            have hfz17_2 := blk_frozen BK375.out 2
            try go_wp2
            have n0_ := Aside0.mk (blk_drew BK375.out)
            have n1_ := Aside0.mk (below_drew1 HB.out)
            clear BK375
            clear HB
            have BK375 := n0_
            have HB := n1_
            clear n0_ n1_
            have p377 : 0 ≤ (x4_1 : Int) := of_decide_eq_true (by assumption)
            have q377 : x4_1 < (l0_2.length : Int) := of_decide_eq_true (by assumption)
            obtain ⟨ad377, e377, hx377_0, hx377_1⟩ := at_T29 HR0_2.out x4_1 p377 q377
            have hw377_1 := hx377_1
            have hw377_0 := hx377_0
            cases e377
            replace hx377_0 := (HB.out.cell (World.block_lt_of_cell? w _ hx377_0)).trans hx377_0
            replace hx377_1 := (HB.out.cell (World.block_lt_of_cell? w _ hx377_1)).trans hx377_1
            replace p377 := eq_true p377
            replace q377 := eq_true q377
            have p378 : 0 ≤ (x4_1 : Int) := of_decide_eq_true (by assumption)
            have q378 : x4_1 < (l0_2.length : Int) := of_decide_eq_true (by assumption)
            obtain ⟨ad378, e378, hx378_0, hx378_1⟩ := at_T29 HR0_2.out x4_1 p378 q378
            have hw378_1 := hx378_1
            have hw378_0 := hx378_0
            obtain rfl : ad377 = ad378 := (by injection e378)
            replace hx378_0 := (HB.out.cell (World.block_lt_of_cell? w _ hx378_0)).trans hx378_0
            replace hx378_1 := (HB.out.cell (World.block_lt_of_cell? w _ hx378_1)).trans hx378_1
            replace p378 := eq_true p378
            replace q378 := eq_true q378
            refine start_ (n := 19) (S := fun w' => w'.cell? ⟨gb375, 0, none⟩ = some (.string a0_0) ∧ w'.cell? ⟨gb375, 1, none⟩ = some (.string a0_1) ∧ w'.cell? ⟨gb375, 2, none⟩ = some (.slice (some ad377) l0_2.length c0_2) ∧ w'.cell? (ad377.add ((x4_1).toNat * 2)) = some (.string ((rd_T29 l0_2 x4_1).f0)) ∧ w'.cell? ⟨(ad377.add ((x4_1).toNat * 2)).block, (ad377.add ((x4_1).toNat * 2)).off + 1, none⟩ = some (.string ((rd_T29 l0_2 x4_1).f1)) ∧ w'.cell? (ad377.add ((x4_1).toNat * 2)) = some (.string ((rd_T29 l0_2 x4_1).f0)) ∧ w'.cell? ⟨(ad377.add ((x4_1).toNat * 2)).block, (ad377.add ((x4_1).toNat * 2)).off + 1, none⟩ = some (.string ((rd_T29 l0_2 x4_1).f1))) (ds := []) #[false, false, false, false, false, false, false, false, false, false, false, false, false, false, false, false, false, false, false] (by kernel_rfl) rfl rfl ⟨(blk_cell BK375.out 0).trans rfl, (blk_cell BK375.out 1).trans rfl, (blk_cell BK375.out 2).trans rfl, ((HB.out.cell (World.block_lt_of_cell? w _ hw377_0)).trans hw377_0), ((HB.out.cell (World.block_lt_of_cell? w _ hw377_1)).trans hw377_1), ((HB.out.cell (World.block_lt_of_cell? w _ hw378_0)).trans hw378_0), ((HB.out.cell (World.block_lt_of_cell? w _ hw378_1)).trans hw378_1)⟩ (fun hHeld => ?_); refine with_tabW spec_FormatKind.tab7 spec_FormatKind.bits7 (fun HT_ HW_ => ?_)
            generalize wr.drew = w18 at BK375 HB hx377_0 hx377_1 hx378_0 hx378_1 hHeld ⊢
            refine pure_ (i := 0) (N := some 21) (v := ?_) (a' := ?_) #[true, false, false, false, false, false, false, false, false, false, false, false, false, false, false, false, false, false, false] rfl rfl (any_of HT_.out (by kernel_rfl)) (fun _ _ _ h => h) (Or.inl ⟨by rfl, ?_⟩) ?_ ?_
            rotate_left
            ·
             intro w'
             go_simp
             with_reducible rfl
            rotate_left
            ·
             simp only [Act.put, List.setIfInBounds_toArray, List.set_cons_zero, List.set_cons_succ, i64_w, i32_w]
             rfl
            refine pure_ (i := 1) (N := some 22) (v := ?_) (a' := ?_) #[true, true, false, false, false, false, false, false, false, false, false, false, false, false, false, false, false, false, false] rfl rfl (any_of HT_.out (by kernel_rfl)) (fun _ _ _ h => h) (Or.inl ⟨by rfl, ?_⟩) ?_ ?_
            rotate_left
            ·
             intro w'
             go_simp
             with_reducible rfl
            rotate_left
            ·
             simp only [Act.put, List.setIfInBounds_toArray, List.set_cons_zero, List.set_cons_succ, i64_w, i32_w]
             rfl
            refine pure_ (i := 2) (N := some 23) (v := ?_) (a' := ?_) #[true, true, true, false, false, false, false, false, false, false, false, false, false, false, false, false, false, false, false] rfl rfl (any_of HT_.out (by kernel_rfl)) (fun _ _ _ h => h) (Or.inl ⟨by rfl, ?_⟩) ?_ ?_
            rotate_left
            ·
             intro w'
             go_simp
             with_reducible rfl
            rotate_left
            ·
             simp only [Act.put, List.setIfInBounds_toArray, List.set_cons_zero, List.set_cons_succ, i64_w, i32_w]
             rfl
            refine pure_ (i := 4) (N := some 25) (v := ?_) (a' := ?_) #[true, true, true, false, true, false, false, false, false, false, false, false, false, false, false, false, false, false, false] rfl rfl (any_of HT_.out (by kernel_rfl)) (fun _ _ _ h => h) (Or.inl ⟨by rfl, ?_⟩) ?_ ?_
            rotate_left
            ·
             intro w'
             go_simp
             with_reducible rfl
            rotate_left
            ·
             simp only [Act.put, List.setIfInBounds_toArray, List.set_cons_zero, List.set_cons_succ, i64_w, i32_w]
             rfl
            refine pure_ (i := 10) (N := some 31) (v := ?_) (a' := ?_) #[true, true, true, false, true, false, false, false, false, false, true, false, false, false, false, false, false, false, false] rfl rfl (any_of HT_.out (by kernel_rfl)) (fun _ _ _ h => h) (Or.inl ⟨by rfl, ?_⟩) ?_ ?_
            rotate_left
            ·
             intro w'
             go_simp
             with_reducible rfl
            rotate_left
            ·
             simp only [Act.put, List.setIfInBounds_toArray, List.set_cons_zero, List.set_cons_succ, i64_w, i32_w]
             rfl
            refine pure_ (i := 12) (N := some 33) (v := ?_) (a' := ?_) #[true, true, true, false, true, false, false, false, false, false, true, false, true, false, false, false, false, false, false] rfl rfl (any_of HT_.out (by kernel_rfl)) (fun _ _ _ h => h) (Or.inl ⟨by rfl, ?_⟩) ?_ ?_
            rotate_left
            ·
             intro w'
             go_simp
             with_reducible rfl
            rotate_left
            ·
             simp only [Act.put, List.setIfInBounds_toArray, List.set_cons_zero, List.set_cons_succ, i64_w, i32_w]
             rfl
            refine take_ (i := 3) (N := some 24) (v := ?_) (a' := ?_) #[true, true, true, true, true, false, false, false, false, false, true, false, true, false, false, false, false, false, false] rfl rfl (take_ofW HT_.out HW_.out (by kernel_rfl)) (fun _ _ _ h => h) (Or.inl ⟨by rfl, ?_⟩) hHeld ?_ ?_
            rotate_left
            ·
             rintro w' ⟨s0, s1, s2, s3, s4, s5, s6⟩
             go_simp
             with_reducible rfl
            rotate_left
            ·
             simp only [Act.put, List.setIfInBounds_toArray, List.set_cons_zero, List.set_cons_succ, i64_w, i32_w]
             rfl
            refine pure_ (i := 5) (N := some 26) (v := ?_) (a' := ?_) #[true, true, true, true, true, true, false, false, false, false, true, false, true, false, false, false, false, false, false] rfl rfl (any_of HT_.out (by kernel_rfl)) (fun _ _ _ h => h) (Or.inl ⟨by rfl, ?_⟩) ?_ ?_
            rotate_left
            ·
             intro w'
             go_simp
             with_reducible rfl
            rotate_left
            ·
             simp only [Act.put, List.setIfInBounds_toArray, List.set_cons_zero, List.set_cons_succ, i64_w, i32_w]
             rfl
            refine pure_ (i := 6) (N := some 27) (v := ?_) (a' := ?_) #[true, true, true, true, true, true, true, false, false, false, true, false, true, false, false, false, false, false, false] rfl rfl (any_of HT_.out (by kernel_rfl)) (fun _ _ _ h => h) (Or.inl ⟨by rfl, ?_⟩) ?_ ?_
            rotate_left
            ·
             intro w'
             go_simp
             with_reducible rfl
            rotate_left
            ·
             simp only [Act.put, List.setIfInBounds_toArray, List.set_cons_zero, List.set_cons_succ, i64_w, i32_w]
             rfl
            refine take_ (i := 7) (N := some 28) (v := ?_) (a' := ?_) #[true, true, true, true, true, true, true, true, false, false, true, false, true, false, false, false, false, false, false] rfl rfl (take_ofW HT_.out HW_.out (by kernel_rfl)) (fun _ _ _ h => h) (Or.inl ⟨by rfl, ?_⟩) hHeld ?_ ?_
            rotate_left
            ·
             rintro w' ⟨s0, s1, s2, s3, s4, s5, s6⟩
             go_simp
             with_reducible rfl
            rotate_left
            ·
             simp only [Act.put, List.setIfInBounds_toArray, List.set_cons_zero, List.set_cons_succ, i64_w, i32_w]
             rfl
            refine pure_ (i := 8) (N := some 29) (v := ?_) (a' := ?_) #[true, true, true, true, true, true, true, true, true, false, true, false, true, false, false, false, false, false, false] rfl rfl (any_of HT_.out (by kernel_rfl)) (fun _ _ _ h => h) (Or.inl ⟨by rfl, ?_⟩) ?_ ?_
            rotate_left
            ·
             intro w'
             go_simp
             with_reducible rfl
            rotate_left
            ·
             simp only [Act.put, List.setIfInBounds_toArray, List.set_cons_zero, List.set_cons_succ, i64_w, i32_w]
             rfl
            refine pure_ (i := 9) (N := some 30) (v := ?_) (a' := ?_) #[true, true, true, true, true, true, true, true, true, true, true, false, true, false, false, false, false, false, false] rfl rfl (any_of HT_.out (by kernel_rfl)) (fun _ _ _ h => h) (Or.inl ⟨by rfl, ?_⟩) ?_ ?_
            rotate_left
            ·
             intro w'
             go_simp
             with_reducible rfl
            rotate_left
            ·
             simp only [Act.put, List.setIfInBounds_toArray, List.set_cons_zero, List.set_cons_succ, i64_w, i32_w]
             rfl
            refine take_ (i := 11) (N := some 32) (v := ?_) (a' := ?_) #[true, true, true, true, true, true, true, true, true, true, true, true, true, false, false, false, false, false, false] rfl rfl (take_ofW HT_.out HW_.out (by kernel_rfl)) (fun _ _ _ h => h) (Or.inl ⟨by rfl, ?_⟩) hHeld ?_ ?_
            rotate_left
            ·
             rintro w' ⟨s0, s1, s2, s3, s4, s5, s6⟩
             go_simp
             with_reducible rfl
            rotate_left
            ·
             simp only [Act.put, List.setIfInBounds_toArray, List.set_cons_zero, List.set_cons_succ, i64_w, i32_w]
             rfl
            refine pure_ (i := 13) (N := some 34) (v := ?_) (a' := ?_) #[true, true, true, true, true, true, true, true, true, true, true, true, true, true, false, false, false, false, false] rfl rfl (any_of HT_.out (by kernel_rfl)) (fun _ _ _ h => h) (Or.inl ⟨by rfl, ?_⟩) ?_ ?_
            rotate_left
            ·
             intro w'
             go_simp
             with_reducible rfl
            rotate_left
            ·
             simp only [Act.put, List.setIfInBounds_toArray, List.set_cons_zero, List.set_cons_succ, i64_w, i32_w]
             rfl
            refine pure_ (i := 14) (N := some 35) (v := ?_) (a' := ?_) #[true, true, true, true, true, true, true, true, true, true, true, true, true, true, true, false, false, false, false] rfl rfl (any_of HT_.out (by kernel_rfl)) (fun _ _ _ h => h) (Or.inl ⟨by rfl, ?_⟩) ?_ ?_
            rotate_left
            ·
             intro w'
             go_simp
             with_reducible rfl
            rotate_left
            ·
             simp only [Act.put, List.setIfInBounds_toArray, List.set_cons_zero, List.set_cons_succ, i64_w, i32_w]
             rfl
            refine take_ (i := 15) (N := some 36) (v := ?_) (a' := ?_) #[true, true, true, true, true, true, true, true, true, true, true, true, true, true, true, true, false, false, false] rfl rfl (take_ofW HT_.out HW_.out (by kernel_rfl)) (fun _ _ _ h => h) (Or.inl ⟨by rfl, ?_⟩) hHeld ?_ ?_
            rotate_left
            ·
             rintro w' ⟨s0, s1, s2, s3, s4, s5, s6⟩
             go_simp
             with_reducible rfl
            rotate_left
            ·
             simp only [Act.put, List.setIfInBounds_toArray, List.set_cons_zero, List.set_cons_succ, i64_w, i32_w]
             rfl
            refine one_ (i := 16) (N := some 37) #[true, true, true, true, true, true, true, true, true, true, true, true, true, true, true, true, true, false, false] rfl rfl (one_of HT_.out (by kernel_rfl)) (by decide) (fun K hK => ?_)
            refine goes_ Tryd.func34 (by kernel_rfl) rfl #[.string ((rd_T29 l0_2 x4_1).f1)] (by rfl) rfl rfl ma ?_
            with_reducible refine (spec_QuoteWord.calls k1 ((rd_T29 l0_2 x4_1).f1) t379 _ A15.out).mono ?_
            rintro e w19 ⟨rfl, hb⟩
            refine ⟨_, rfl, ?_⟩
            have n0_ := Aside0.mk (blk_below (g := gb375) (o := .cells #[.string a0_0, .string a0_1, .slice (some ad377) l0_2.length c0_2] 25 (0, 0)) (ub BK375.out) hb)
            have n1_ := Aside0.mk (below_step bb hb)
            clear BK375
            clear HB
            have BK375 := n0_
            have HB := n1_
            clear n0_ n1_
            (try clear hb)
            (try clear hb2)
            (try clear hk)
            (try clear hi)
            refine hK.out _ _ ⟨(blk_cell BK375.out 0).trans rfl, (blk_cell BK375.out 1).trans rfl, (blk_cell BK375.out 2).trans rfl, ((HB.out.cell (World.block_lt_of_cell? w _ hw377_0)).trans hw377_0), ((HB.out.cell (World.block_lt_of_cell? w _ hw377_1)).trans hw377_1), ((HB.out.cell (World.block_lt_of_cell? w _ hw378_0)).trans hw378_0), ((HB.out.cell (World.block_lt_of_cell? w _ hw378_1)).trans hw378_1)⟩ (fun hHeld => ?_)
            clear hK K
            refine norm_ (a' := ?_) ?_ ?_
            rotate_left
            ·
             show Act.put _ (some 37) _ = _
             simp only [Act.put, List.setIfInBounds_toArray, List.set_cons_zero, List.set_cons_succ, i64_w, i32_w]
             rfl
            refine pure_ (i := 17) (N := some 38) (v := ?_) (a' := ?_) #[true, true, true, true, true, true, true, true, true, true, true, true, true, true, true, true, true, true, false] rfl rfl (any_of HT_.out (by kernel_rfl)) (fun _ _ _ h => h) (Or.inl ⟨by rfl, ?_⟩) ?_ ?_
            rotate_left
            ·
             intro w'
             go_simp
             with_reducible rfl
            rotate_left
            ·
             simp only [Act.put, List.setIfInBounds_toArray, List.set_cons_zero, List.set_cons_succ, i64_w, i32_w]
             rfl
            refine pure_ (i := 18) (N := some 3) (v := ?_) (a' := ?_) #[true, true, true, true, true, true, true, true, true, true, true, true, true, true, true, true, true, true, true] rfl rfl (any_of HT_.out (by kernel_rfl)) (fun _ _ _ h => h) (Or.inl ⟨by rfl, ?_⟩) ?_ ?_
            rotate_left
            ·
             intro w'
             go_simp
             with_reducible rfl
            rotate_left
            ·
             simp only [Act.put, List.setIfInBounds_toArray, List.set_cons_zero, List.set_cons_succ, i64_w, i32_w]
             rfl
            refine done_ (done_of HT_.out (by kernel_rfl)) ?_
            try go_wp2
            go_roundg k1
            case measure => have := HK1.out; omega
            case rel => exact ⟨((((x3_1 ++ (⟨#[59, 32]⟩ : ByteArray)) ++ ((rd_T29 l0_2 x4_1).f0)) ++ (⟨#[61]⟩ : ByteArray)) ++ t379), (wrap64 (x4_1 + 1)), (by first | rfl | (simp; done) | (simp [*]; done)), (by first | rfl | (simp; done) | (simp [*]; done)), H', ⟨by have := HK1.out; omega⟩, ⟨ub BK375.out⟩, ⟨bb⟩⟩
           ·
            rw [if_neg c16] at H
            exact absurd H (by simp)
          ·
           rw [if_neg c14] at H
           exact absurd H (by simp)
         ·
          rw [if_neg c13] at H
          exact absurd H (by simp)
        ·
         rw [if_neg c12] at H
         exact absurd H (by simp)
       ·
        rw [if_neg c11] at H
        exact absurd H (by simp)
      ·
       rw [if_neg c10] at H
       have c10b0 : decide (x4_1 < (l0_2.length : Int)) = false := decide_eq_false c10
       clear c10
       obtain rfl := Option.some.inj H
       have hcz20_0 : wr.cell? ⟨gb375, 0, none⟩ = some (.string a0_0) := (blk_cell BK375.out 0).trans rfl
       have hcz20_1 : wr.cell? ⟨gb375, 1, none⟩ = some (.string a0_1) := (blk_cell BK375.out 1).trans rfl
       have hcz20_2 : wr.cell? ⟨gb375, 2, none⟩ = some (.slice A0_2 l0_2.length c0_2) := (blk_cell BK375.out 2).trans rfl
       have hfz20_0 := blk_frozen BK375.out 0
       have hfz20_1 := blk_frozen BK375.out 1
       have hfz20_2 := blk_frozen BK375.out 2
       go_wp2
       go_ret
       exact ⟨by first | rfl | (simp [errW_none, errW_some] <;> rfl) | (simp [*, errW_none, errW_some] <;> rfl), bb⟩
   ·
    rw [if_neg c5] at H
    exact absurd H (by simp)
  ·
   rw [if_neg c4] at H
   exact absurd H (by simp)
 ·
  replace c3 := Bool.eq_false_iff.mpr c3
  subst c3
  have H1 : (some (⟨#[]⟩ : ByteArray)) = some r := by rw [if_neg (show ¬ (false = true) by decide)] at H; exact H
  clear H
  have H := H1
  clear H1
  obtain rfl := Option.some.inj H
  go_enter Tryd.func15, Tryd.ntmps15
  go_wp2_with (first | ((with_reducible refine gate_dst (N := 1) rfl ?_); refine box_event ?hg (N := 1) ?hd (cs := #[.string a0_0, .string a0_1, .slice A0_2 l0_2.length c0_2]) (t := 25) ?hr ?_; (case hd => rfl); (case hg => rfl); (case hr => first | (go_simp; done) | (go_simp; rfl)); intro gb375 hg w21 hbox hb; have n0_ := Aside0.mk (below_step (ul HB.out) hb); have n1_ := Aside0.mk (hbox); have n2_ := Aside0.mk ((by rw [hg]; exact (below_size (ul HB.out)) : w.heap.size ≤ gb375)); have n3_ := Aside0.mk ((by rw [hg]; exact (below_size (ul HB.out)) : w.heap.size ≤ gb375)); clear HB; have HB := n0_; have BK375 := n1_; have GW375 := n2_; have GE375 := n3_; clear n0_ n1_ n2_ n3_; clear hb hbox hg; have hcz22_0 : w21.cell? ⟨gb375, 0, none⟩ = some (.string a0_0) := (blk_cell BK375.out 0).trans rfl; have hcz22_1 : w21.cell? ⟨gb375, 1, none⟩ = some (.string a0_1) := (blk_cell BK375.out 1).trans rfl; have hcz22_2 : w21.cell? ⟨gb375, 2, none⟩ = some (.slice A0_2 l0_2.length c0_2) := (blk_cell BK375.out 2).trans rfl; have hfz22_0 := blk_frozen BK375.out 0; have hfz22_1 := blk_frozen BK375.out 1; have hfz22_2 := blk_frozen BK375.out 2) | ((with_reducible refine gate_callee (f := 10) rfl ?_); refine goesL_ (some 6) rfl rfl Tryd.func10 (by kernel_rfl) rfl #[.agg #[.string a0_0, .string a0_1, .slice A0_2 l0_2.length c0_2]] rfl ma ?_; (with_reducible refine (spec_KindValid.calls k a0_0 a0_1 _ _ l0_2 false _ ?side1 ?side2 A2.out).mono ?_); (case side1 => repeat (first | exact (Kd.C_below HR0_2.out HB.out) | (with_reducible refine Kd.C_alloc ?_ _) | (with_reducible refine Kd.C_drewN ?_ _) | (with_reducible refine Kd.C_drew ?_))); (case side2 => exact HC0_2.out); rintro e w23 ⟨rfl, hb⟩; refine ⟨_, rfl, ?_⟩; have n0_ := Aside0.mk (blk_below (g := gb375) (o := .cells #[.string a0_0, .string a0_1, .slice A0_2 l0_2.length c0_2] 25 (0, 0)) (ub BK375.out) hb); have n1_ := Aside0.mk (below_step bb hb); clear BK375; clear HB; have BK375 := n0_; have HB := n1_; clear n0_ n1_; (try clear hb); (try clear hb2); (try clear hk); (try clear hi)))
  go_ret
  exact ⟨by first | rfl | (simp [errW_none, errW_some] <;> rfl) | (simp [*, errW_none, errW_some] <;> rfl), bb⟩

-- NOT PRINTED: function 4 (laws_FnKindCapital)

end Go.Proofs.YtengipddcaookaaDoor.PFnKindCapital
