/- Printed walks; conditions: those in each statement. -/
import Derived.Test.YtncdadcmghglkaaGreatDoorVFnExactCountPartsQt
import Derived.Test.YtncdadcmghglkaaGreatDoorVFnExactCountPartsYt
import Derived.Test.YtncdadcmghglkaaGreatDoorPFnExactCountPartsx0
import Derived.Test.YtncdadcmghglkaaGreatDoorPFnExactCountPartsx11
-- fixed
-- short
-- dense
-- sq
namespace Go.Proofs.YtncdadcmghglkaaGreatDoor.PFnExactCountParts
open Go.RowKit Go.Proofs.YtncdadcmghglkaaGreatDoor.X Go.Proofs.YtncdadcmghglkaaGreatDoorW.PrintWords Go.Proofs.YtncdadcmghglkaaGreatDoorW.PrintLast Go.Proofs.YtncdadcmghglkaaGreatDoorW.PrintMore
attribute [local go_sem] max2_int min2_int max_two min_two max_three min_three max_four min_four   -- for this text's walks alone
set_option linter.unusedVariables false
set_option linter.unusedSimpArgs false
mutual
def impl_foldField.j0 : Nat → ByteArray → Int → Option (List ByteArray)
 | 0, _, _ => none
 | k + 1, x3, x4 => impl_foldField.l0 k x3 x4 (([] : List ByteArray))
def impl_foldField.l0 : Nat → ByteArray → Int → List ByteArray → Option (List ByteArray)
 | 0, _, _, _ => none
 | k + 1, x3, x4, x5 => if (x3.size : Int) > 40 then (impl_foldField.l1 k x3 x5 (-1) x4) else (if x5.length < 8796093022208 then (some (x5 ++ [x3])) else (none))
def impl_foldField.l1 : Nat → ByteArray → List ByteArray → Int → Int → Option (List ByteArray)
 | 0, _, _, _, _ => none
 | k + 1, x3, x5, x6, x7 => if (wrap64 (x7 + 1)) < (x3.size : Int) then (if 0 ≤ x7 then (if x7 < (x3.size : Int) then (if (bt x3 x7) = 32 then (if 0 ≤ (wrap64 (x7 - 1)) then (if (wrap64 (x7 - 1)) < (x3.size : Int) then (if (bt x3 (wrap64 (x7 - 1))) = 32 then (impl_foldField.l1 k x3 x5 x6 (wrap64 (x7 + 1))) else (if 0 ≤ (wrap64 (x7 + 1)) then (if (bt x3 (wrap64 (x7 + 1))) = 32 then (impl_foldField.l1 k x3 x5 x6 (wrap64 (x7 + 1))) else (if x6 < 0 then (impl_foldField.l1 k x3 x5 x7 (wrap64 (x7 + 1))) else (if x7 ≤ 40 then (impl_foldField.l1 k x3 x5 x7 (wrap64 (x7 + 1))) else (impl_foldField.l1 k x3 x5 x6 (wrap64 (x7 + 1)))))) else (none))) else (none)) else (none)) else (impl_foldField.l1 k x3 x5 x6 (wrap64 (x7 + 1)))) else (none)) else (none)) else (if x6 < 0 then (if x5.length < 8796093022208 then (some (x5 ++ [x3])) else (none)) else (if 0 ≤ x6 then (if x6 ≤ (x3.size : Int) then (if x5.length < 8796093022208 then (impl_foldField.l0 k (x3.extract (x6 : Int).toNat x3.size) 2 (x5 ++ [x3.extract 0 (x6 : Int).toNat])) else (none)) else (none)) else (none)))
end
def impl_foldField.f (k : Nat) (a0_0 : ByteArray) (a0_1 : ByteArray) : Option (List ByteArray) := if a0_0.size + 1 ≤ 9223372036854775807 then (if a0_1.toList = ([] : List UInt8) then (impl_foldField.j0 k (a0_0 ++ (⟨#[58]⟩ : ByteArray)) (wrap64 ((a0_0.size : Int) + 3))) else (if 1 + a0_1.size ≤ 9223372036854775807 then (if (a0_0 ++ (⟨#[58]⟩ : ByteArray)).size + ((⟨#[32]⟩ : ByteArray) ++ a0_1).size ≤ 9223372036854775807 then (impl_foldField.j0 k ((a0_0 ++ (⟨#[58]⟩ : ByteArray)) ++ ((⟨#[32]⟩ : ByteArray) ++ a0_1)) (wrap64 ((a0_0.size : Int) + 3))) else (none)) else (none))) else (none)
def impl_foldField.T1 : Bool × List (List Nat × List Nat) := (true, [([], []), ([0], [0]), ([1], [1]), ([], []), ([3], [3]), ([4], [4]), ([5], [5]), ([2, 0, 1, 2], [2]), ([6, 7, 0, 1, 2, 3, 4, 5, 6, 7], [6])])
def impl_foldField.B1 : List Nat := [0, 1, 3, 0, 8, 24, 56, 7, 255]
theorem impl_foldField.tab1 : rtab .any (opsOf Tryz.f83 1) = impl_foldField.T1 := by kernel_rfl
theorem impl_foldField.bits1 : waitsOk impl_foldField.T1.2 impl_foldField.B1 = true := by kernel_rfl
def impl_foldField.T13 : Bool × List (List Nat × List Nat) := (true, [([], []), ([], []), ([], []), ([1, 2], [1, 2]), ([3], [3]), ([0, 4], [0, 4]), ([], []), ([], []), ([6, 7], [6, 7]), ([5, 5, 0, 1, 2, 3, 4, 5], [0, 5]), ([8, 9, 0, 1, 2, 3, 4, 5, 6, 7, 8, 9], [1, 6, 8]), ([10, 0, 1, 2, 3, 4, 5, 6, 7, 8, 9, 10], [])])
def impl_foldField.B13 : List Nat := [0, 0, 0, 6, 14, 31, 0, 0, 192, 63, 1023, 2047]
theorem impl_foldField.tab13 : rtab .any (opsOf Tryz.f83 13) = impl_foldField.T13 := by kernel_rfl
theorem impl_foldField.bits13 : waitsOk impl_foldField.T13.2 impl_foldField.B13 = true := by kernel_rfl
set_option maxHeartbeats 8000000 in
set_option maxRecDepth 100000 in
theorem impl_foldField.calls (k : Nat) (a0_0 : ByteArray) (a0_1 : ByteArray) (r : List ByteArray) (w : World) (h : impl_foldField.f k a0_0 a0_1 = some r) :
  Calls Tryz.prog 83 #[.agg #[.string a0_0, .string a0_1]] w fun e w' => ∃ v0_ : Value, e = .returned (v0_) ∧ Kd.R Kd.string 9 w' w.heap.size (fun _ => True) v0_ r ∧ Below w.heap.size w w' := by
 have hu69 := Tryz.underlying69
 have HB := ak (Below.refl w.heap.size w)
 have H : (if a0_0.size + 1 ≤ 9223372036854775807 then (if a0_1.toList = ([] : List UInt8) then (impl_foldField.j0 k (a0_0 ++ (⟨#[58]⟩ : ByteArray)) (wrap64 ((a0_0.size : Int) + 3))) else (if 1 + a0_1.size ≤ 9223372036854775807 then (if (a0_0 ++ (⟨#[58]⟩ : ByteArray)).size + ((⟨#[32]⟩ : ByteArray) ++ a0_1).size ≤ 9223372036854775807 then (impl_foldField.j0 k ((a0_0 ++ (⟨#[58]⟩ : ByteArray)) ++ ((⟨#[32]⟩ : ByteArray) ++ a0_1)) (wrap64 ((a0_0.size : Int) + 3))) else (none)) else (none))) else (none)) = some r := h
 clear h
 replace H := nn H; obtain ⟨c2, H⟩ := H
 have c2b0 := eq_true c2
 have c2b1 := decide_eq_true c2
 try have c2b2 : (9223372036854775807 < a0_0.size + 1) = False := eq_false (Nat.not_lt.2 c2)
 have HC3 := ak H
 clear H
 go_enter Tryz.func83, Tryz.ntmps83
 try go_wp2_with (first | (refine bE 1 #[.string a0_0, .string a0_1] 69 ?_; intro gb392 hg w4 hbox hb; have BK392 := ak (hbox); have GW392 := ge_ HB hg; have GE392 := ge_ HB hg; replace HB := bs HB hb; clear hb hbox hg))
 replace BK392 := ak (blk_drew BK392.out)
 replace HB := ak (below_drew1 HB.out)
 refine ro [] [0, 3, 1, 2, 7, 4, 5, 6, 8] (fun w' => w'.cell? ⟨gb392, 0, none⟩ = some (.string a0_0) ∧ w'.cell? ⟨gb392, 1, none⟩ = some (.string a0_1)) ⟨(blk_cell BK392.out 0).trans rfl, (blk_cell BK392.out 1).trans rfl⟩ ?_
 generalize w4.drew = w5 at BK392 HB ⊢
 repeat (refine lk (v := ?_) (a' := ?_) (gk.trans rfl) rfl rfl ?_ ?_ ?_; rotate_left; (focus (rintro w' ⟨s0, s1⟩; go_simp; with_reducible rfl)); rotate_left; (focus (simp only [Act.put, l_a, l_b, l_c, i64_w, i32_w]; rfl)))
 refine on ?_
 obtain ⟨hcz6_0, hcz6_1, hfz6_0, hfz6_1⟩ := cz2 BK392.out
 go_upto_if 17 with (fail)
 go_cut [3] (fun v3 wc => ∃ (kq : Nat) (x3_2 : ByteArray), v3 = .string x3_2 ∧ Aside0 (impl_foldField.j0 kq x3_2 (wrap64 ((a0_0.size : Int) + 3)) = some r) ∧ Aside0 (kq ≤ k) ∧ Aside0 (wc.heap[gb392]? = some (.cells #[.string a0_0, .string a0_1] 69 (0, 0))) ∧ Aside0 (Below w.heap.size w wc))
 case first =>
  have H := HC3.out
  clear HC3
  replace H := sp H
  rcases H with ⟨c7, H⟩ | ⟨c7, H⟩
  ·
   have c7b0 := beq_iff_eq.mpr c7
   have c7e : (a0_1.toList).isEmpty = true := List.isEmpty_iff.mpr c7
   have c7b1 := bne_eq_false_iff_eq.mpr c7
   clear c7
   (first | rw [c7b0] | (simp only [i64_w, i32_w]; rw [c7b0]) | skip)
   (first | (rw [c7e]; simp only [Bool.not_true, Bool.not_false]) | skip)
   have H' := ak H; clear H
   go_wp2
   go_meet
   case rel => exact ⟨_, (a0_0 ++ (⟨#[58]⟩ : ByteArray)), rs, H', ⟨le_⟩, ⟨ub BK392.out⟩, ⟨bb⟩⟩
  ·
   have c7b0 := beq_eq_false_iff_ne.mpr c7
   have c7e : (a0_1.toList).isEmpty = false := List.isEmpty_eq_false_iff.mpr c7
   have c7b1 := bne_iff_ne.mpr c7
   (first | rw [c7b0] | (simp only [i64_w, i32_w]; rw [c7b0]) | skip)
   (first | (rw [c7e]; simp only [Bool.not_true, Bool.not_false]) | skip)
   replace H := nn H; obtain ⟨c8, H⟩ := H
   have c8b0 := eq_true c8
   have c8b1 := decide_eq_true c8
   try have c8b2 : (9223372036854775807 < 1 + a0_1.size) = False := eq_false (Nat.not_lt.2 c8)
   replace H := nn H; obtain ⟨c9, H⟩ := H
   have c9b0 := eq_true c9
   have c9b1 := decide_eq_true c9
   try have c9b3 : (9223372036854775807 < a0_0.size + 1 + (1 + a0_1.size)) = False := by have h_ := (eq_false (Nat.not_lt.2 c9) : (9223372036854775807 < (a0_0 ++ (⟨#[58]⟩ : ByteArray)).size + ((⟨#[32]⟩ : ByteArray) ++ a0_1).size) = False); simp only [ByteArray.size_append] at h_; exact h_
   try have c9b2 : (9223372036854775807 < (a0_0 ++ (⟨#[58]⟩ : ByteArray)).size + ((⟨#[32]⟩ : ByteArray) ++ a0_1).size) = False := eq_false (Nat.not_lt.2 c9)
   have H' := ak H; clear H
   obtain ⟨hcz10_0, hcz10_1, hfz10_0, hfz10_1⟩ := cz2 BK392.out
   go_wp2
   go_meet
   case rel => exact ⟨_, ((a0_0 ++ (⟨#[58]⟩ : ByteArray)) ++ ((⟨#[32]⟩ : ByteArray) ++ a0_1)), rs, H', ⟨le_⟩, ⟨ub BK392.out⟩, ⟨bb⟩⟩
 case rest =>
  clear HC3
  try clear c2
  try clear c2b0
  try clear c2b1
  try clear c2b2
  try clear p2
  try clear p6
  try clear c7
  try clear c7b0
  try clear c7b1
  try clear c8
  try clear c8b0
  try clear c8b1
  try clear c8b2
  try clear c9
  try clear c9b0
  try clear c9b1
  try clear c9b2
  try clear hcz10_0
  try clear hcz10_1
  try clear hcz6_0
  try clear hcz6_1
  try clear hfz10_0
  try clear hfz10_1
  try clear hfz6_0
  try clear hfz6_1
  obtain ⟨kq, x3_2, rfl, HA, HJ2, BK392, HB⟩ := hcut
  cases kq with
  | zero => exact absurd HA.out (by simp [impl_foldField.j0])
  | succ kj2 =>
   have H := HA.out
   clear HA
   simp only [impl_foldField.j0] at H
   obtain ⟨y393, Ny393⟩ := nm ([] : List ByteArray)
   rw [← Ny393.out] at H
   (try rw [Option.bind_some] at H)
   have H' := ak H; clear H
   go_wp2_with (first | ((with_reducible refine gate_dst (N := 23) rfl ?_); refine Kd.R_lit Kd.string _ 9 ?hg (N := 23) ?hd (xs := ([] : List ByteArray)) (inner := []) (ok := fun _ => True) (okp := fun _ => True) ?hr ?hp (fun _ hk => hk) trivial (Below.refl _ _) (Nat.le_refl _) (by simp) ?_; (case hd => rfl); (case hg => rfl); (case hr => first | (go_simp; done) | (go_simp; rfl)); (case hp => exact (Reps.none _ _)); intro v394 w11 ho12 hb hg_ hnew_; clear hg_ hnew_; (first | rw [← Ny393.out] at ho12 | (simp only [Int.reduceToNat] at ho12; rw [← Ny393.out] at ho12)); have HO395 := ak (Kd.R_lower ho12 (below_size bb)); replace BK392 := kb BK392 hb; replace HB := ak (below_step bb hb); clear hb ho12))
   go_loopg [3, 4, 5] kj2 (fun kq v3 v4 v5 w' => ∃ (x3_2 : ByteArray) (x4_2 : Int) (x5_2 : List ByteArray), v3 = .string x3_2 ∧ v4 = .int .i64 x4_2 ∧ Aside0 (impl_foldField.l0 kq x3_2 x4_2 x5_2 = some r) ∧ Aside0 (kq ≤ kj2) ∧ Aside0 (Kd.R Kd.string 9 w' w.heap.size (fun _ => True) v5 x5_2) ∧ Aside0 (w'.heap[gb392]? = some (.cells #[.string a0_0, .string a0_1] 69 (0, 0))) ∧ Aside0 (Below w.heap.size w w'))
   case atStart => exact ⟨(x3_2), ((wrap64 ((a0_0.size : Int) + 3))), (y393), rs, rs, H', ⟨Nat.le_refl _⟩, ⟨ur HO395.out⟩, ⟨ub BK392.out⟩, ⟨bb⟩⟩
   case round =>
    clear H'
    try clear c2
    try clear c2b0
    try clear c2b1
    try clear c2b2
    try clear p2
    try clear p6
    try clear c7
    try clear c7b0
    try clear c7b1
    try clear c8
    try clear c8b0
    try clear c8b1
    try clear c8b2
    try clear c9
    try clear c9b0
    try clear c9b1
    try clear c9b2
    try clear hcz10_0
    try clear hcz10_1
    try clear hcz6_0
    try clear hcz6_1
    try clear hfz10_0
    try clear hfz10_1
    try clear hfz6_0
    try clear hfz6_1
    try clear p2
    try clear p6
    obtain ⟨x3_2, x4_2, x5_2, rfl, rfl, HA, HK2, HO_5, BK392, HB⟩ := hrel
    cases gk with
    | zero => exact absurd HA.out (by simp [impl_foldField.l0])
    | succ k2 =>
     have H := HA.out
     clear HA
     simp only [impl_foldField.l0] at H
     replace H := sp H
     rcases H with ⟨c13, H⟩ | ⟨c13, H⟩
     ·
      have c13b0 : decide (40 < (x3_2.size : Int)) = true := decide_eq_true c13
      have c13b1 : decide (40 < x3_2.size) = true := decide_eq_true (by omega)
      clear c13
      have H' := ak H; clear H
      go_wp2
      go_loopg [6, 7] k2 (fun kq v6 v7 w' => ∃ (x6_3 : Int) (x7_3 : Int), v6 = .int .i64 x6_3 ∧ v7 = .int .i64 x7_3 ∧ Aside0 (impl_foldField.l1 kq x3_2 x5_2 x6_3 x7_3 = some r) ∧ Aside0 (kq ≤ k2) ∧ Aside0 (Kd.R Kd.string 9 w' w.heap.size (fun _ => True) u5 x5_2) ∧ Aside0 (w'.heap[gb392]? = some (.cells #[.string a0_0, .string a0_1] 69 (0, 0))) ∧ Aside0 (Below w.heap.size w w'))
      case atStart => exact ⟨((-1)), (x4_2), rs, rs, H', ⟨Nat.le_refl _⟩, ⟨ur HO_5.out⟩, ⟨ub BK392.out⟩, ⟨bb⟩⟩
      case round =>
       clear H'
       try clear c1
       try clear c2
       try clear c2b0
       try clear c2b1
       try clear c2b2
       try clear p2
       try clear p6
       try clear c7
       try clear c7b0
       try clear c7b1
       try clear c8
       try clear c8b0
       try clear c8b1
       try clear c8b2
       try clear c9
       try clear c9b0
       try clear c9b1
       try clear c9b2
       try clear c13
       try clear c13b0
       try clear c13b1
       try clear hcz10_0
       try clear hcz10_1
       try clear hcz6_0
       try clear hcz6_1
       try clear hfz10_0
       try clear hfz10_1
       try clear hfz6_0
       try clear hfz6_1
       try clear p2
       try clear p6
       obtain ⟨x6_3, x7_3, rfl, rfl, HA, HK3, HO_5, BK392, HB⟩ := hrel
       cases gk with
       | zero => exact absurd HA.out (by simp [impl_foldField.l1])
       | succ k3 =>
        have H := HA.out
        clear HA
        simp only [impl_foldField.l1] at H
        replace H := sp H
        rcases H with ⟨c14, H⟩ | ⟨c14, H⟩
        ·
         have c14b0 := decide_eq_true c14
         (try (have c14b1 : decide ((x7_3 + 1) < (x3_2.size : Int)) = true := decide_eq_true (by have h_ := c14; unfold wrap64 at h_; omega)))
         clear c14
         replace H := nde H; obtain ⟨c15b0, H⟩ := H; replace H := nde H; obtain ⟨c16b0, H⟩ := H; replace H := sq H
         rcases H with ⟨c18b0, c18b1, H⟩ | ⟨c18, c18b0, c18b1, H⟩
         ·
          obtain ⟨ji19, hji19⟩ : ∃ j_ : Int, (wrap64 (x7_3 - 1)) = j_ := ⟨_, rfl⟩
          replace H : (if 0 ≤ (ji19) then (if (ji19) < (x3_2.size : Int) then (if (bt x3_2 (ji19)) = 32 then (impl_foldField.l1 k3 x3_2 x5_2 x6_3 (wrap64 (x7_3 + 1))) else (if 0 ≤ (wrap64 (x7_3 + 1)) then (if (bt x3_2 (wrap64 (x7_3 + 1))) = 32 then (impl_foldField.l1 k3 x3_2 x5_2 x6_3 (wrap64 (x7_3 + 1))) else (if x6_3 < 0 then (impl_foldField.l1 k3 x3_2 x5_2 x7_3 (wrap64 (x7_3 + 1))) else (if x7_3 ≤ 40 then (impl_foldField.l1 k3 x3_2 x5_2 x7_3 (wrap64 (x7_3 + 1))) else (impl_foldField.l1 k3 x3_2 x5_2 x6_3 (wrap64 (x7_3 + 1)))))) else (none))) else (none)) else (none)) = some r := by first | (rw [hji19] at H; exact H) | (simp only [hji19] at H ⊢; exact H)
          have hji19w : (IntKind.i64.wrap (x7_3 - 1)) = ji19 := (i64_w _).trans hji19
          replace H := nde H; obtain ⟨c20b0, H⟩ := H; replace H := nde H; obtain ⟨c21b0, H⟩ := H; replace H := sq H
          rcases H with ⟨c23b0, c23b1, H⟩ | ⟨c23, c23b0, c23b1, H⟩
          ·
           have H' := ak H; clear H
           obtain ⟨p17, q17, hx17⟩ := bx x3_2 x7_3
           obtain ⟨p22, q22, hx22⟩ := bx x3_2 (ji19)
           go_wp2
           go_roundg k3
           case measure => have := HJ2.out; have := HK2.out; have := HK3.out; omega
           case rel => exact ⟨(x6_3), (wrap64 (x7_3 + 1)), rs, rs, H', ⟨by have := HJ2.out; have := HK2.out; have := HK3.out; omega⟩, ⟨ur HO_5.out⟩, ⟨ub BK392.out⟩, ⟨bb⟩⟩
          ·
           obtain ⟨ji24, hji24⟩ : ∃ j_ : Int, (wrap64 (x7_3 + 1)) = j_ := ⟨_, rfl⟩
           replace H : (if 0 ≤ (ji24) then (if (bt x3_2 (ji24)) = 32 then (impl_foldField.l1 k3 x3_2 x5_2 x6_3 ji24) else (if x6_3 < 0 then (impl_foldField.l1 k3 x3_2 x5_2 x7_3 ji24) else (if x7_3 ≤ 40 then (impl_foldField.l1 k3 x3_2 x5_2 x7_3 ji24) else (impl_foldField.l1 k3 x3_2 x5_2 x6_3 ji24)))) else (none)) = some r := by first | (rw [hji24] at H; exact H) | (simp only [hji24] at H ⊢; exact H)
           (try rw [hji24] at c14b0)
           have hji24w : (IntKind.i64.wrap (x7_3 + 1)) = ji24 := (i64_w _).trans hji24
           replace H := nde H; obtain ⟨c25b0, H⟩ := H; replace H := sq H
           rcases H with ⟨c27b0, c27b1, H⟩ | ⟨c27, c27b0, c27b1, H⟩
           ·
            have H' := ak H; clear H
            obtain ⟨p17, q17, hx17⟩ := bx x3_2 x7_3
            obtain ⟨p22, q22, hx22⟩ := bx x3_2 (ji19)
            obtain ⟨p26, q26, hx26⟩ := bx x3_2 (ji24)
            go_wp2
            go_roundg k3
            case measure => have := HJ2.out; have := HK2.out; have := HK3.out; omega
            case rel => exact ⟨(x6_3), (ji24), rs, (by first | rfl | (simp; done) | (simp only [← hji24] <;> (first | rfl | simp)) | (simp [*]; done)), H', ⟨by have := HJ2.out; have := HK2.out; have := HK3.out; omega⟩, ⟨ur HO_5.out⟩, ⟨ub BK392.out⟩, ⟨bb⟩⟩
           ·
            replace H := sd H
            rcases H with ⟨c28b0, H⟩ | ⟨c28b0, H⟩
            ·
             have H' := ak H; clear H
             obtain ⟨p17, q17, hx17⟩ := bx x3_2 x7_3
             obtain ⟨p22, q22, hx22⟩ := bx x3_2 (ji19)
             obtain ⟨p26, q26, hx26⟩ := bx x3_2 (ji24)
             go_wp2
             go_roundg k3
             case measure => have := HJ2.out; have := HK2.out; have := HK3.out; omega
             case rel => exact ⟨(x7_3), (ji24), rs, (by first | rfl | (simp; done) | (simp only [← hji24] <;> (first | rfl | simp)) | (simp [*]; done)), H', ⟨by have := HJ2.out; have := HK2.out; have := HK3.out; omega⟩, ⟨ur HO_5.out⟩, ⟨ub BK392.out⟩, ⟨bb⟩⟩
            ·
             replace H := sd H
             rcases H with ⟨c29b0, H⟩ | ⟨c29b0, H⟩
             ·
              have H' := ak H; clear H
              obtain ⟨p17, q17, hx17⟩ := bx x3_2 x7_3
              obtain ⟨p22, q22, hx22⟩ := bx x3_2 (ji19)
              obtain ⟨p26, q26, hx26⟩ := bx x3_2 (ji24)
              go_wp2
              go_roundg k3
              case measure => have := HJ2.out; have := HK2.out; have := HK3.out; omega
              case rel => exact ⟨(x7_3), (ji24), rs, (by first | rfl | (simp; done) | (simp only [← hji24] <;> (first | rfl | simp)) | (simp [*]; done)), H', ⟨by have := HJ2.out; have := HK2.out; have := HK3.out; omega⟩, ⟨ur HO_5.out⟩, ⟨ub BK392.out⟩, ⟨bb⟩⟩
             ·
              have H' := ak H; clear H
              obtain ⟨p17, q17, hx17⟩ := bx x3_2 x7_3
              obtain ⟨p22, q22, hx22⟩ := bx x3_2 (ji19)
              obtain ⟨p26, q26, hx26⟩ := bx x3_2 (ji24)
              go_wp2
              go_roundg k3
              case measure => have := HJ2.out; have := HK2.out; have := HK3.out; omega
              case rel => exact ⟨(x6_3), (ji24), rs, (by first | rfl | (simp; done) | (simp only [← hji24] <;> (first | rfl | simp)) | (simp [*]; done)), H', ⟨by have := HJ2.out; have := HK2.out; have := HK3.out; omega⟩, ⟨ur HO_5.out⟩, ⟨ub BK392.out⟩, ⟨bb⟩⟩
         ·
          have H' := ak H; clear H
          obtain ⟨p17, q17, hx17⟩ := bx x3_2 x7_3
          go_wp2
          go_roundg k3
          case measure => have := HJ2.out; have := HK2.out; have := HK3.out; omega
          case rel => exact ⟨(x6_3), (wrap64 (x7_3 + 1)), rs, rs, H', ⟨by have := HJ2.out; have := HK2.out; have := HK3.out; omega⟩, ⟨ur HO_5.out⟩, ⟨ub BK392.out⟩, ⟨bb⟩⟩
        ·
         have c14b0 := decide_eq_false c14
         (try (have c14b1 : decide ((x7_3 + 1) < (x3_2.size : Int)) = false := decide_eq_false (by have h_ := c14; unfold wrap64 at h_; omega)))
         clear c14
         replace H := sd H
         rcases H with ⟨c30b0, H⟩ | ⟨c30b0, H⟩
         ·
          replace H := nl H; obtain ⟨LMc31, H⟩ := H
          obtain ⟨y399, Ny399⟩ := nm (x5_2 ++ [x3_2])
          rw [← Ny399.out] at H
          (try rw [Option.bind_some] at H)
          obtain rfl := Option.some.inj H
          go_wp2_with (first | ((with_reducible refine gate_builtin (b := .append) (xs := #[.tmp 73, .tmp 75]) rfl ?_); at_builtin; refine Kd.R_append Kd.string (w0 := w) w.heap.size rfl (.tmp 73) (.tmp 75) 23 9 (.string ⟨#[]⟩) 16 rfl Tryz.underlying23 info9 rfl (by decide) (by omega) u5 x5_2 x3_2 [.string x3_2] (fun _ => True) (fun _ => False) rfl rfl ?aP (fun _ hk => hk.elim) ?aF ?aO ?aB ?aS ?aL ?_; (case aP => exact rfl); (case aB => exact bb); (case aF => exact (fun _ _ => trivial)); (case aO => exact (ur HO_5.out)); (case aS => exact (below_size bb)); (case aL => have := LMc31.out; omega); intro v400 w32 ho hb hg hat; rw [← Ny399.out] at ho; have n0_ := ak (blk_grown (g := gb392) (o := .cells #[.string a0_0, .string a0_1] 69 (0, 0)) (ub BK392.out) hg (Kd.R_ne HO_5.out BK392.out (by decide))); have n1_ := ak (hb); have n2_ := ak (ho); clear BK392; clear HB; clear HO_5; have BK392 := n0_; have HB := n1_; have HO401 := n2_; clear n0_ n1_ n2_; clear ho hb hg hat))
          go_ret
          exact ⟨_, er, ur HO401.out, bb⟩
         ·
          replace H := ne_ H; obtain ⟨c33b0, c33b1, H⟩ := H; replace H := ne_ H; obtain ⟨c34b0, c34b1, H⟩ := H; replace H := nl H; obtain ⟨LMc35, H⟩ := H
          obtain ⟨y402, Ny402⟩ := nm (x5_2 ++ [x3_2.extract 0 (x6_3 : Int).toNat])
          rw [← Ny402.out] at H
          (try rw [Option.bind_some] at H)
          have c36b0 := eq_true (of_decide_eq_true (by assumption) : 0 ≤ x6_3)
          have c37b0 := eq_true (of_decide_eq_true (by assumption) : x6_3 ≤ (x3_2.size : Int))
          have H' := ak H; clear H
          try go_wp2
          replace HO_5 := ak (Kd.R_drew HO_5.out)
          replace BK392 := ak (blk_drew BK392.out)
          replace HB := ak (below_drew1 HB.out)
          refine ro [4, 5] [0, 1, 2, 3, 6, 7, 8, 4, 5, 9, 10, 11] (fun w' => True) trivial ?_
          generalize wr.drew = w38 at HO_5 BK392 HB ⊢
          repeat (refine lk (v := ?_) (a' := ?_) (gk.trans rfl) rfl rfl ?_ ?_ ?_; rotate_left; (focus (intro w' _; go_simp; with_reducible rfl)); rotate_left; (focus (simp only [Act.put, l_a, l_b, l_c, i64_w, i32_w]; rfl)))
          refine ld (N := some 68) (gk.trans rfl) rfl rfl (fun K hK => ?_)
          refine value_ (w1 := ?_) (v := ?_) (by rfl) rfl ?_ ?_
          rotate_left 2
          ·
           go_simp
           constructor
           ·
            rfl
           ·
            rfl
          refine hK.out _ _ trivial ?_
          clear hK K
          refine no (a' := ?_) ?_ ?_
          rotate_left
          ·
           show Act.put _ (some 68) _ = _
           simp only [Act.put, l_a, l_b, l_c, i64_w, i32_w]
           rfl
          refine ld (N := some 69) (gk.trans rfl) rfl rfl (fun K hK => ?_)
          refine Kd.R_append_step Kd.string (w0 := w) w.heap.size (by rfl) (.tmp 64) (.tmp 68) 23 9 (.string ⟨#[]⟩) 16 rfl Tryz.underlying23 info9 rfl (by decide) (by omega) u5 x5_2 (x3_2.extract 0 (x6_3 : Int).toNat) [.string (x3_2.extract 0 (x6_3 : Int).toNat)] (fun _ => True) (fun _ => False) rfl rfl ?aP (fun _ hk => hk.elim) ?aF ?aO ?aB ?aS ?aL ?_
          (case aP => exact rfl)
          (case aB => exact bb)
          (case aF => exact (fun _ _ => trivial))
          (case aO => exact (ur HO_5.out))
          (case aS => exact (below_size bb))
          (case aL => have := LMc35.out; omega)
          intro v403 w39 ho hb hg hat
          rw [← Ny402.out] at ho
          have n0_ := ak (blk_grown (g := gb392) (o := .cells #[.string a0_0, .string a0_1] 69 (0, 0)) (ub BK392.out) hg (Kd.R_ne HO_5.out BK392.out (by decide)))
          have n1_ := ak (hb)
          have n2_ := ak (ho)
          clear BK392 HB HO_5
          have BK392 := n0_
          have HB := n1_
          have HO404 := n2_
          clear n0_ n1_ n2_ ho hb hg hat
          refine hK.out _ _ trivial ?_
          clear hK K
          refine no (a' := ?_) ?_ ?_
          rotate_left
          ·
           show Act.put _ (some 69) _ = _
           simp only [Act.put, l_a, l_b, l_c, i64_w, i32_w]
           rfl
          repeat (refine lk (v := ?_) (a' := ?_) (gk.trans rfl) rfl rfl ?_ ?_ ?_; rotate_left; (focus (intro w' _; go_simp; with_reducible rfl)); rotate_left; (focus (simp only [Act.put, l_a, l_b, l_c, i64_w, i32_w]; rfl)))
          refine on ?_
          try go_wp2
          go_roundg k3
          case measure => have := HJ2.out; have := HK2.out; have := HK3.out; omega
          case rel => exact ⟨(x3_2.extract (x6_3 : Int).toNat x3_2.size), (2), (y402), rs, rs, H', ⟨by have := HJ2.out; have := HK2.out; have := HK3.out; omega⟩, ⟨ur HO404.out⟩, ⟨ub BK392.out⟩, ⟨bb⟩⟩
     ·
      have c13b0 : decide (40 < (x3_2.size : Int)) = false := decide_eq_false c13
      have c13b1 : decide (40 < x3_2.size) = false := decide_eq_false (by omega)
      clear c13
      replace H := nl H; obtain ⟨LMc40, H⟩ := H
      obtain ⟨y396, Ny396⟩ := nm (x5_2 ++ [x3_2])
      rw [← Ny396.out] at H
      (try rw [Option.bind_some] at H)
      obtain rfl := Option.some.inj H
      go_wp2_with (first | ((with_reducible refine gate_builtin (b := .append) (xs := #[.tmp 73, .tmp 75]) rfl ?_); at_builtin; refine Kd.R_append Kd.string (w0 := w) w.heap.size rfl (.tmp 73) (.tmp 75) 23 9 (.string ⟨#[]⟩) 16 rfl Tryz.underlying23 info9 rfl (by decide) (by omega) u5 x5_2 x3_2 [.string x3_2] (fun _ => True) (fun _ => False) rfl rfl ?aP (fun _ hk => hk.elim) ?aF ?aO ?aB ?aS ?aL ?_; (case aP => exact rfl); (case aB => exact bb); (case aF => exact (fun _ _ => trivial)); (case aO => exact (ur HO_5.out)); (case aS => exact (below_size bb)); (case aL => have := LMc40.out; omega); intro v397 w41 ho hb hg hat; rw [← Ny396.out] at ho; have n0_ := ak (blk_grown (g := gb392) (o := .cells #[.string a0_0, .string a0_1] 69 (0, 0)) (ub BK392.out) hg (Kd.R_ne HO_5.out BK392.out (by decide))); have n1_ := ak (hb); have n2_ := ak (ho); clear BK392; clear HB; clear HO_5; have BK392 := n0_; have HB := n1_; have HO398 := n2_; clear n0_ n1_ n2_; clear ho hb hg hat))
      go_ret
      exact ⟨_, er, ur HO398.out, bb⟩
def impl_FoldFields.l0 : Nat → List ByteArray → List (S69) → Int → Int → Option (List ByteArray × Bool)
 | 0, _, _, _, _ => none
 | k + 1, x4, x11, x12, x13 => if x13 < x12 then (if 0 ≤ x13 then (if x13 < (x11.length : Int) then ((impl_foldField.f k ((rd_T69 x11 x13).f0) ((rd_T69 x11 x13).f1)).bind fun t411 => (if x4.length + t411.length < 8796093022208 then (impl_FoldFields.l0 k (x4 ++ t411) x11 x12 (wrap64 (x13 + 1))) else (none))) else (none)) else (none)) else (some (x4, true))
def impl_FoldFields.f (k : Nat) (l0 : List (S69)) : Option (List ByteArray × Bool) := (impl_fieldsValid.f k l0).bind fun t405 => (if t405 = true then (impl_FoldFields.l0 k (([] : List ByteArray)) l0 (l0.length : Int) 0) else (some (([] : List ByteArray), false)))
set_option maxHeartbeats 8000000 in
set_option maxRecDepth 100000 in
theorem impl_FoldFields.calls (k : Nat) (A0 : Option Addr) (c0 : Nat) (l0 : List (S69)) (r1 : List ByteArray) (r2 : Bool) (w : World) (hr0 : Kd.C k69 w A0 l0.length l0) (hc0 : l0.length ≤ c0) (h : impl_FoldFields.f k l0 = some (r1, r2)) :
  Calls Tryz.prog 39 #[.slice A0 l0.length c0] w fun e w' => ∃ v0_ : Value, e = .returned (.tuple #[v0_, .bool r2]) ∧ Kd.R Kd.string 9 w' w.heap.size (fun _ => True) v0_ r1 ∧ Below w.heap.size w w' := by
 have hu69 := Tryz.underlying69
 have HR0 := ak hr0
 have HC0 := ak hc0
 clear hr0 hc0
 have HB := ak (Below.refl w.heap.size w)
 have H : ((impl_fieldsValid.f k l0).bind fun t405 => (if t405 = true then (impl_FoldFields.l0 k (([] : List ByteArray)) l0 (l0.length : Int) 0) else (some (([] : List ByteArray), false)))) = some (r1, r2) := h
 clear h
 replace H := bd H; obtain ⟨t405, A2, H⟩ := H; replace H := sb H
 rcases H with ⟨rfl, H⟩ | ⟨rfl, H⟩
 ·
  obtain ⟨y406, Ny406⟩ := nm ([] : List ByteArray)
  rw [← Ny406.out] at H
  (try rw [Option.bind_some] at H)
  have H' := ak H; clear H
  go_enter Tryz.func39, Tryz.ntmps39
  go_wp2_with (first | (refine gL 82 8 Tryz.func82 #[.slice A0 l0.length c0] ?_; (with_reducible refine (impl_fieldsValid.calls k _ _ l0 true _ (cu HR0.out) HC0.out A2.out).mono ?_); rintro e w4 ⟨rfl, hb⟩; refine ⟨_, rfl, ?_⟩; replace HB := bs HB hb; (try clear hb)) | ((with_reducible refine gate_dst (N := 10) rfl ?_); refine Kd.R_lit Kd.string _ 9 ?hg (N := 10) ?hd (xs := ([] : List ByteArray)) (inner := []) (ok := fun _ => True) (okp := fun _ => True) ?hr ?hp (fun _ hk => hk) trivial (Below.refl _ _) (Nat.le_refl _) (by simp) ?_; (case hd => rfl); (case hg => rfl); (case hr => first | (go_simp; done) | (go_simp; rfl)); (case hp => exact (Reps.none _ _)); intro v407 w5 ho6 hb hg_ hnew_; clear hg_ hnew_; (first | rw [← Ny406.out] at ho6 | (simp only [Int.reduceToNat] at ho6; rw [← Ny406.out] at ho6)); have HO408 := ak (Kd.R_lower ho6 (below_size (ul HB.out))); replace HB := bs HB hb; clear hb ho6))
  go_loopg [4, 13] k (fun kq v4 v13 w' => ∃ (x4_1 : List ByteArray) (x13_1 : Int), v13 = .int .i64 x13_1 ∧ Aside0 (impl_FoldFields.l0 kq x4_1 l0 (l0.length : Int) x13_1 = some (r1, r2)) ∧ Aside0 (kq ≤ k) ∧ Aside0 (Kd.R Kd.string 9 w' w.heap.size (fun _ => True) v4 x4_1) ∧ Aside0 (Below w.heap.size w w'))
  case atStart => exact ⟨(y406), (0), rs, H', ⟨Nat.le_refl _⟩, ⟨ur HO408.out⟩, ⟨ul HB.out⟩⟩
  case round =>
   clear H'
   try clear p2
   try clear c3
   obtain ⟨x4_1, x13_1, rfl, HA, HK1, HO_4, HB⟩ := hrel
   cases gk with
   | zero => exact absurd HA.out (by simp [impl_FoldFields.l0])
   | succ k1 =>
    have H := HA.out
    clear HA
    simp only [impl_FoldFields.l0] at H
    replace H := sd H
    rcases H with ⟨c7b0, H⟩ | ⟨c7b0, H⟩
    ·
     replace H := nde H; obtain ⟨c8b0, H⟩ := H; replace H := nde H; obtain ⟨c9b0, H⟩ := H; replace H := bd H; obtain ⟨t411, A10, H⟩ := H; replace H := nl H; obtain ⟨LMc11, H⟩ := H
     obtain ⟨y414, Ny414⟩ := nm (x4_1 ++ t411)
     rw [← Ny414.out] at H
     (try rw [Option.bind_some] at H)
     have H' := ak H; clear H
     have p409 := zi x13_1
     have q409 := zj x13_1 l0.length
     obtain ⟨ad409, e409, hx409_0, hx409_1⟩ := at_T69 HR0.out x13_1 p409 q409
     cases e409
     replace hx409_0 := cl HB.out hx409_0
     replace hx409_1 := cl HB.out hx409_1
     replace p409 := eq_true p409
     replace q409 := eq_true q409
     go_wp2_with (first | (refine bE 6 #[.string (⟨#[]⟩ : ByteArray), .string (⟨#[]⟩ : ByteArray)] 69 ?_; intro gb410 hg w12 hbox hb; have BK410 := ak (hbox); have GW410 := ge_ HB hg; have GE410 := ge_ HB hg; replace HO_4 := rb HO_4 hb; replace HB := bs HB hb; clear hb hbox hg; obtain ⟨hcz13_0, hcz13_1, hfz13_0, hfz13_1⟩ := cz2 BK410.out) | (refine gL 83 19 Tryz.func83 #[.agg #[.string ((rd_T69 l0 x13_1).f0), .string ((rd_T69 l0 x13_1).f1)]] ?_; (with_reducible refine (impl_foldField.calls k1 ((rd_T69 l0 x13_1).f0) ((rd_T69 l0 x13_1).f1) t411 _ A10.out).mono ?_); rintro e w14 ⟨v412, rfl, ho0, hb⟩; refine ⟨_, rfl, ?_⟩; have HO413 := ak (Kd.R_lower (Kd.R_new' ho0 (Kd.R_lt (ur (Kd.R_mono (Kd.R_far (p := ⟨gb410, 1, none⟩) (Kd.R_far (p := ⟨gb410, 0, none⟩) (Kd.R_types HO_4.out BK410.out (by decide)) (fun _ hk => hk.2) (.string ((rd_T69 l0 x13_1).f0))) (fun _ hk => hk.2) (.string ((rd_T69 l0 x13_1).f1))) (fun _ h_ => h_.1))))) (below_size bb)); replace HO_4 := ak (Kd.R_elder' (ur (Kd.R_mono (Kd.R_far (p := ⟨gb410, 1, none⟩) (Kd.R_far (p := ⟨gb410, 0, none⟩) (Kd.R_types HO_4.out BK410.out (by decide)) (fun _ hk => hk.2) (.string ((rd_T69 l0 x13_1).f0))) (fun _ hk => hk.2) (.string ((rd_T69 l0 x13_1).f1))) (fun _ h_ => h_.1))) (Kd.R_base ho0) hb); replace BK410 := ak (blk_below (g := gb410) (o := .cells #[.string ((rd_T69 l0 x13_1).f0), .string ((rd_T69 l0 x13_1).f1)] 69 (0, 0)) (by (with_reducible repeat (first | refine blk_drewN ?_ _ | refine blk_drew ?_ | refine blk_alloc ?_ _)); refine blk_put (cs := #[.string ((rd_T69 l0 x13_1).f0), .string (⟨#[]⟩ : ByteArray)]) ?_ 1 _ rfl; (with_reducible repeat (first | refine blk_drewN ?_ _ | refine blk_drew ?_ | refine blk_alloc ?_ _)); refine blk_put (cs := #[.string (⟨#[]⟩ : ByteArray), .string (⟨#[]⟩ : ByteArray)]) ?_ 0 _ rfl; (with_reducible repeat (first | refine blk_drewN ?_ _ | refine blk_drew ?_ | refine blk_alloc ?_ _)); exact BK410.out) hb); replace HB := ak (below_step bb hb); (try clear hb); (try clear ho0); obtain ⟨Ao16, co16, eo16⟩ := Kd.R_slice HO413.out; subst eo16) | ((with_reducible refine gate_builtin (b := .append) (xs := #[.tmp 17, .tmp 19]) rfl ?_); at_builtin; refine Kd.R_append_rows Kd.string (w0 := w) w.heap.size rfl (.tmp 17) (.tmp 19) 23 9 (.string ⟨#[]⟩) 16 rfl Tryz.underlying23 info9 rfl (by decide) (by omega) u4 x4_1 t411 _ _ _ (fun k_ => some k_ ≠ (.slice Ao16 t411.length co16 : Value).ownBlock) (fun _ => False) rfl rfl ?aO ?aR (fun _ _ h => h) (fun _ h => h.elim) ?aF ?aB ?aS ?aL ?_; (case aR => repeat (first | exact (Kd.R_reads' HO413.out).2.2 | (with_reducible refine Kd.C_alloc ?_ _) | (with_reducible refine Kd.C_drewN ?_ _) | (with_reducible refine Kd.C_drew ?_))); (case aB => exact bb); (case aF => exact (fun k_ hk => Kd.fresh' (Kd.R_lt (ur HO413.out)) k_ hk)); (case aO => exact (ur (Kd.R_mono HO_4.out (fun _ hk => hk.2)))); (case aS => exact (below_size bb)); (case aL => have := LMc11.out; omega); intro v415 w15 ho hb hg hat; rw [← Ny414.out] at ho; have n0_ := ak (blk_grown (g := gb410) (o := .cells #[.string ((rd_T69 l0 x13_1).f0), .string ((rd_T69 l0 x13_1).f1)] 69 (0, 0)) (ub BK410.out) hg (Kd.R_ne HO_4.out BK410.out (by decide))); have n1_ := ak (Kd.R_after (ok := (fun _ => True)) (ur HO413.out) hg hat); have n2_ := ak (hb); have n3_ := ak (ho); clear BK410; clear HO413; clear HB; clear HO_4; have BK410 := n0_; have HO413 := n1_; have HB := n2_; have HO416 := n3_; clear n0_ n1_ n2_ n3_; clear ho hb hg hat))
     go_roundg k1
     case measure => have := HK1.out; omega
     case rel => exact ⟨(y414), (wrap64 (x13_1 + 1)), rs, H', ⟨by have := HK1.out; omega⟩, ⟨ur (Kd.R_mono HO416.out (fun _ hk => trivial))⟩, ⟨bb⟩⟩
    ·
     simp only [Option.some.injEq, Prod.mk.injEq] at H
     obtain ⟨rfl, rfl⟩ := H
     go_wp2
     go_ret2
     exact ⟨_, er, ur HO_4.out, ul HB.out⟩
 ·
  simp only [Option.some.injEq, Prod.mk.injEq] at H
  obtain ⟨rfl, rfl⟩ := H
  go_enter Tryz.func39, Tryz.ntmps39
  go_wp2_with (first | (refine gL 82 8 Tryz.func82 #[.slice A0 l0.length c0] ?_; (with_reducible refine (impl_fieldsValid.calls k _ _ l0 false _ (cu HR0.out) HC0.out A2.out).mono ?_); rintro e w17 ⟨rfl, hb⟩; refine ⟨_, rfl, ?_⟩; replace HB := bs HB hb; (try clear hb)))
  go_ret2
  exact ⟨_, er, nx, ul HB.out⟩
def impl_LowerText.f (a0 : ByteArray) : Option (ByteArray) := if a0.size ≤ 140737488355328 then some (strOfNums ((bytesOf a0).map lowI)) else none
set_option maxHeartbeats 1000000 in
set_option maxRecDepth 100000 in
theorem impl_LowerText.calls (a0 : ByteArray) (r : ByteArray) (w : World) (h : impl_LowerText.f a0 = some r) :
  Calls Tryz.prog 93 #[.string a0] w fun e w' => e = .returned (.string r) ∧ Below w.heap.size w w' := by
 unfold impl_LowerText.f at h
 split at h
 ·
  rename_i hb
  injection h with h
  subst h
  have kb := fun W => print_bytes (P := Tryz.prog) 9 22 5 Tryz.underlying9 Tryz.underlying22 Tryz.underlying5 a0 W
  go_enter Tryz.func93, Tryz.ntmps93
  go_wp2
  go_loopw [10] (fun i W => ∃ k : Nat, k ≤ a0.size ∧ i = .int .i64 k ∧ LowRow w w.heap.size (lowN (bytesOf a0) k) W) (fun i _ => a0.size - (intOf i).toNat)
  case atStart => exact ⟨0, Nat.zero_le _, rfl, by simpa [lowN] using lowRow_start w 5 a0⟩
  case round =>
   obtain ⟨k, hk, rfl, hR⟩ := hrel
   have HR := ak hR
   by_cases hlt : k < a0.size
   ·
    have hc := hR.cell k (by rw [lowN_length, bytesOf_length]; exact hlt)
    have hf := hR.free k (by rw [lowN_length, bytesOf_length]; exact hlt)
    rw [lowN_at _ _ (by rw [bytesOf_length]; exact hlt)] at hc
    clear hR
    have hr := bytesOf_range a0 k
    have hs := ak (lowN_skip (bytesOf a0) k (by rw [bytesOf_length]; exact hlt))
    have hu := ak (lowN_succ (bytesOf a0) k (by rw [bytesOf_length]; exact hlt))
    generalize (bytesOf a0).getD k 0 = c at hc hr hs hu
    go_wp2
    ·
     go_roundw
     case rel => exact ⟨k + 1, by omega, by go_num, by
      rw [hu.out, lowI, if_pos ⟨by omega, by omega⟩]
      exact HR.out.store (Nat.le_refl _) k (by rw [lowN_length, bytesOf_length]; exact hlt) _⟩
     case measure => simp [intOf]; omega
    ·
     go_roundw
     case rel => exact ⟨k + 1, by omega, by go_num, by rw [hs.out (by omega)]; exact HR.out⟩
     case measure => simp [intOf]; omega
    ·
     go_roundw
     case rel => exact ⟨k + 1, by omega, by go_num, by rw [hs.out (by omega)]; exact HR.out⟩
     case measure => simp [intOf]; omega
   ·
    clear hR
    have kd := run_convert_bytes_arg (P := Tryz.prog) wr 22 5 Tryz.underlying22 Tryz.underlying5 w.heap.size 0 a0.size (grownCap w a0.size 0 5) (lowN (bytesOf a0) k) (by rw [lowN_length, bytesOf_length]) (fun i hi => by
     rw [Nat.zero_add]; exact HR.out.cell i (by rw [lowN_length, bytesOf_length]; exact hi)) 9 Tryz.underlying9
    go_wp2
    go_ret
    have hk2 : k = a0.size := by omega
    exact ⟨by rw [hk2, lowN_all (bytesOf a0) a0.size (bytesOf_length a0)]; rfl, HR.out.below⟩
 ·
  cases h
def impl_SameText.f (a0 : ByteArray) (a1 : ByteArray) : Option (Bool) := (impl_LowerText.f a0).bind fun t417 => ((impl_LowerText.f a1).bind fun t418 => (some (t417.toList == t418.toList)))
set_option maxHeartbeats 8000000 in
set_option maxRecDepth 100000 in
theorem impl_SameText.calls (a0 : ByteArray) (a1 : ByteArray) (r : Bool) (w : World) (h : impl_SameText.f a0 a1 = some r) :
  Calls Tryz.prog 124 #[.string a0, .string a1] w fun e w' => e = .returned (.bool r) ∧ Below w.heap.size w w' := by
 have HB := ak (Below.refl w.heap.size w)
 have H : ((impl_LowerText.f a0).bind fun t417 => ((impl_LowerText.f a1).bind fun t418 => (some (t417.toList == t418.toList)))) = some r := h
 clear h
 replace H := bd H; obtain ⟨t417, A3, H⟩ := H; replace H := bd H; obtain ⟨t418, A4, H⟩ := H
 obtain rfl := Option.some.inj H
 go_enter Tryz.func124, Tryz.ntmps124
 go_wp2_with (first | (refine gL 93 6 Tryz.func93 #[.string a0] ?_; (with_reducible refine (impl_LowerText.calls a0 t417 _ A3.out).mono ?_); rintro e w5 ⟨rfl, hb⟩; refine ⟨_, rfl, ?_⟩; replace HB := bs HB hb; (try clear hb)) | (refine gL 93 8 Tryz.func93 #[.string a1] ?_; (with_reducible refine (impl_LowerText.calls a1 t418 _ A4.out).mono ?_); rintro e w6 ⟨rfl, hb⟩; refine ⟨_, rfl, ?_⟩; replace HB := bs HB hb; (try clear hb)))
 go_ret
 exact ⟨er, ul HB.out⟩
end Go.Proofs.YtncdadcmghglkaaGreatDoor.PFnExactCountParts
