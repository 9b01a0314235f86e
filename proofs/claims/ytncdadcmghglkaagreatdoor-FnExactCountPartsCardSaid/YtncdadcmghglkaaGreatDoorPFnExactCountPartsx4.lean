/- Printed walks; conditions: those in each statement. -/
import Derived.Test.YtncdadcmghglkaaGreatDoorVFnExactCountPartsQt
import Derived.Test.YtncdadcmghglkaaGreatDoorVFnExactCountPartsYt
import Derived.Test.YtncdadcmghglkaaGreatDoorPFnExactCountPartsx0
import Derived.Test.YtncdadcmghglkaaGreatDoorPFnExactCountPartsx3
-- fixed
-- short
-- dense
-- sq
namespace Go.Proofs.YtncdadcmghglkaaGreatDoor.PFnExactCountParts
open Go.RowKit Go.Proofs.YtncdadcmghglkaaGreatDoor.X Go.Proofs.YtncdadcmghglkaaGreatDoorW.PrintWords Go.Proofs.YtncdadcmghglkaaGreatDoorW.PrintLast Go.Proofs.YtncdadcmghglkaaGreatDoorW.PrintMore
attribute [local go_sem] max2_int min2_int max_two min_two max_three min_three max_four min_four   -- for this text's walks alone
set_option linter.unusedVariables false
set_option linter.unusedSimpArgs false
mutual
def spec_FoldField.j0 : Nat → List ByteArray → ByteArray → Int → Option (List ByteArray)
 | 0, _, _, _ => none
 | k + 1, x3, x4, x5 => spec_FoldField.l0 k x3 x4 x5
def spec_FoldField.l0 : Nat → List ByteArray → ByteArray → Int → Option (List ByteArray)
 | 0, _, _, _ => none
 | k + 1, x3, x4, x5 => if (x4.size : Int) > 40 then ((spec_l3Break.f k x4 x5).bind fun t162 => (if t162 < 0 then (if x3.length < 8796093022208 then (some (x3 ++ [x4])) else (none)) else (if 0 ≤ t162 then (if t162 ≤ (x4.size : Int) then (if x3.length < 8796093022208 then (spec_FoldField.l0 k (x3 ++ [x4.extract 0 (t162 : Int).toNat]) (x4.extract (t162 : Int).toNat x4.size) 1) else (none)) else (none)) else (none)))) else (if x3.length < 8796093022208 then (some (x3 ++ [x4])) else (none))
end
def spec_FoldField.f (k : Nat) (a0_0 : ByteArray) (a0_1 : ByteArray) : Option (List ByteArray) := (some (([] : List ByteArray) : List ByteArray)).bind fun y158 => ((spec_FieldValid.f k a0_0 a0_1).bind fun t161 => (if t161 = true then (if a0_0.size + 1 ≤ 9223372036854775807 then (if a0_1.toList = ([] : List UInt8) then (spec_FoldField.j0 k y158 (a0_0 ++ (⟨#[58]⟩ : ByteArray)) ((a0_0 ++ (⟨#[58]⟩ : ByteArray)).size : Int)) else (if (a0_0 ++ (⟨#[58]⟩ : ByteArray)).size + 1 ≤ 9223372036854775807 then (if ((a0_0 ++ (⟨#[58]⟩ : ByteArray)) ++ (⟨#[32]⟩ : ByteArray)).size + a0_1.size ≤ 9223372036854775807 then (spec_FoldField.j0 k y158 (((a0_0 ++ (⟨#[58]⟩ : ByteArray)) ++ (⟨#[32]⟩ : ByteArray)) ++ a0_1) (wrap64 (((a0_0 ++ (⟨#[58]⟩ : ByteArray)).size : Int) + 1))) else (none)) else (none))) else (none)) else (some y158)))
set_option maxHeartbeats 8000000 in
set_option maxRecDepth 100000 in
theorem spec_FoldField.calls (k : Nat) (a0_0 : ByteArray) (a0_1 : ByteArray) (r : List ByteArray) (w : World) (h : spec_FoldField.f k a0_0 a0_1 = some r) :
  Calls Tryz.prog 153 #[.agg #[.string a0_0, .string a0_1]] w fun e w' => ∃ v0_ : Value, e = .returned (v0_) ∧ Kd.R Kd.string 9 w' w.heap.size (fun _ => True) v0_ r ∧ Below w.heap.size w w' := by
 have hu69 := Tryz.underlying69
 have HB := ak (Below.refl w.heap.size w)
 have H : ((some (([] : List ByteArray) : List ByteArray)).bind fun y158 => ((spec_FieldValid.f k a0_0 a0_1).bind fun t161 => (if t161 = true then (if a0_0.size + 1 ≤ 9223372036854775807 then (if a0_1.toList = ([] : List UInt8) then (spec_FoldField.j0 k y158 (a0_0 ++ (⟨#[58]⟩ : ByteArray)) ((a0_0 ++ (⟨#[58]⟩ : ByteArray)).size : Int)) else (if (a0_0 ++ (⟨#[58]⟩ : ByteArray)).size + 1 ≤ 9223372036854775807 then (if ((a0_0 ++ (⟨#[58]⟩ : ByteArray)) ++ (⟨#[32]⟩ : ByteArray)).size + a0_1.size ≤ 9223372036854775807 then (spec_FoldField.j0 k y158 (((a0_0 ++ (⟨#[58]⟩ : ByteArray)) ++ (⟨#[32]⟩ : ByteArray)) ++ a0_1) (wrap64 (((a0_0 ++ (⟨#[58]⟩ : ByteArray)).size : Int) + 1))) else (none)) else (none))) else (none)) else (some y158)))) = some r := h
 clear h
 obtain ⟨y158, Ny158⟩ := nm ([] : List ByteArray)
 rw [← Ny158.out] at H
 (try rw [Option.bind_some] at H)
 replace H := bd H; obtain ⟨t161, A2, H⟩ := H; replace H := sb H
 rcases H with ⟨rfl, H⟩ | ⟨rfl, H⟩
 ·
  replace H := nn H; obtain ⟨c4, H⟩ := H
  have c4b0 := eq_true c4
  have c4b1 := decide_eq_true c4
  try have c4b2 : (9223372036854775807 < a0_0.size + 1) = False := eq_false (Nat.not_lt.2 c4)
  have HC5 := ak H
  clear H
  go_enter Tryz.func153, Tryz.ntmps153
  go_upto_if 19 with (first | (refine bE 1 #[.string a0_0, .string a0_1] 69 ?_; intro gb157 hg w6 hbox hb; have BK157 := ak (hbox); have GW157 := ge_ HB hg; have GE157 := ge_ HB hg; replace HB := bs HB hb; clear hb hbox hg) | ((with_reducible refine gate_dst (N := 7) rfl ?_); refine Kd.R_lit Kd.string _ 9 ?hg (N := 7) ?hd (xs := ([] : List ByteArray)) (inner := []) (ok := fun _ => True) (okp := fun _ => True) ?hr ?hp (fun _ hk => hk) trivial (Below.refl _ _) (Nat.le_refl _) (by simp) ?_; (case hd => rfl); (case hg => rfl); (case hr => first | (go_simp; done) | (go_simp; rfl)); (case hp => exact (Reps.none _ _)); intro v159 w7 ho8 hb hg_ hnew_; clear hg_ hnew_; (first | rw [← Ny158.out] at ho8 | (simp only [Int.reduceToNat] at ho8; rw [← Ny158.out] at ho8)); have HO160 := ak (Kd.R_lower ho8 (below_size bb)); replace BK157 := kb BK157 hb; replace HB := ak (below_step bb hb); clear hb ho8; obtain ⟨hcz9_0, hcz9_1, hfz9_0, hfz9_1⟩ := cz2 BK157.out) | (refine gL 158 9 Tryz.func158 #[.agg #[.string a0_0, .string a0_1]] ?_; (with_reducible refine (spec_FieldValid.calls k a0_0 a0_1 true _ A2.out).mono ?_); rintro e w10 ⟨rfl, hb⟩; refine ⟨_, rfl, ?_⟩; replace HO160 := rb HO160 hb; replace BK157 := kb BK157 hb; replace HB := ak (below_step bb hb); (try clear hb); obtain ⟨hcz11_0, hcz11_1, hfz11_0, hfz11_1⟩ := cz2 BK157.out))
  (try simp only [Act.put, l_a, l_b, l_c])
  go_cut [4, 5] (fun v4 v5 wc => ∃ (kq : Nat) (x4_4 : ByteArray) (x5_4 : Int), v4 = .string x4_4 ∧ v5 = .int .i64 x5_4 ∧ Aside0 (spec_FoldField.j0 kq y158 x4_4 x5_4 = some r) ∧ Aside0 (kq ≤ k) ∧ Aside0 (Kd.R Kd.string 9 wc w.heap.size (fun _ => True) v159 y158) ∧ Aside0 (wc.heap[gb157]? = some (.cells #[.string a0_0, .string a0_1] 69 (0, 0))) ∧ Aside0 (Below w.heap.size w wc))
  case first =>
   have H := HC5.out
   clear HC5
   replace H := sp H
   rcases H with ⟨c12, H⟩ | ⟨c12, H⟩
   ·
    have c12b0 := beq_iff_eq.mpr c12
    have c12e : (a0_1.toList).isEmpty = true := List.isEmpty_iff.mpr c12
    have c12b1 := bne_eq_false_iff_eq.mpr c12
    clear c12
    (first | rw [c12b0] | (simp only [i64_w, i32_w]; rw [c12b0]) | skip)
    (first | (rw [c12e]; simp only [Bool.not_true, Bool.not_false]) | skip)
    have H' := ak H; clear H
    go_wp2
    go_meet
    case rel => exact ⟨_, (a0_0 ++ (⟨#[58]⟩ : ByteArray)), (((a0_0 ++ (⟨#[58]⟩ : ByteArray)).size : Int)), rs, rs, H', ⟨le_⟩, ⟨ur HO160.out⟩, ⟨ub BK157.out⟩, ⟨bb⟩⟩
   ·
    have c12b0 := beq_eq_false_iff_ne.mpr c12
    have c12e : (a0_1.toList).isEmpty = false := List.isEmpty_eq_false_iff.mpr c12
    have c12b1 := bne_iff_ne.mpr c12
    (first | rw [c12b0] | (simp only [i64_w, i32_w]; rw [c12b0]) | skip)
    (first | (rw [c12e]; simp only [Bool.not_true, Bool.not_false]) | skip)
    replace H := nn H; obtain ⟨c13, H⟩ := H
    have c13b0 := eq_true c13
    have c13b1 := decide_eq_true c13
    try have c13b3 : (9223372036854775807 < a0_0.size + 1 + 1) = False := by have h_ := (eq_false (Nat.not_lt.2 c13) : (9223372036854775807 < (a0_0 ++ (⟨#[58]⟩ : ByteArray)).size + 1) = False); simp only [ByteArray.size_append] at h_; exact h_
    try have c13b2 : (9223372036854775807 < (a0_0 ++ (⟨#[58]⟩ : ByteArray)).size + 1) = False := eq_false (Nat.not_lt.2 c13)
    replace H := nn H; obtain ⟨c14, H⟩ := H
    have c14b0 := eq_true c14
    have c14b1 := decide_eq_true c14
    try have c14b3 : (9223372036854775807 < a0_0.size + 1 + 1 + a0_1.size) = False := by have h_ := (eq_false (Nat.not_lt.2 c14) : (9223372036854775807 < ((a0_0 ++ (⟨#[58]⟩ : ByteArray)) ++ (⟨#[32]⟩ : ByteArray)).size + a0_1.size) = False); simp only [ByteArray.size_append] at h_; exact h_
    try have c14b2 : (9223372036854775807 < ((a0_0 ++ (⟨#[58]⟩ : ByteArray)) ++ (⟨#[32]⟩ : ByteArray)).size + a0_1.size) = False := eq_false (Nat.not_lt.2 c14)
    have H' := ak H; clear H
    obtain ⟨hcz15_0, hcz15_1, hfz15_0, hfz15_1⟩ := cz2 BK157.out
    go_wp2
    go_meet
    case rel => exact ⟨_, (((a0_0 ++ (⟨#[58]⟩ : ByteArray)) ++ (⟨#[32]⟩ : ByteArray)) ++ a0_1), (wrap64 (((a0_0 ++ (⟨#[58]⟩ : ByteArray)).size : Int) + 1)), rs, rs, H', ⟨le_⟩, ⟨ur HO160.out⟩, ⟨ub BK157.out⟩, ⟨bb⟩⟩
  case rest =>
   clear HC5
   try clear c1
   try clear p2
   try clear c3
   try clear c4
   try clear c4b0
   try clear c4b1
   try clear c4b2
   try clear p6
   try clear c12
   try clear c12b0
   try clear c12b1
   try clear c13
   try clear c13b0
   try clear c13b1
   try clear c13b2
   try clear c14
   try clear c14b0
   try clear c14b1
   try clear c14b2
   try clear c15
   try clear hcz11_0
   try clear hcz11_1
   try clear hcz15_0
   try clear hcz15_1
   try clear hcz9_0
   try clear hcz9_1
   try clear hfz11_0
   try clear hfz11_1
   try clear hfz15_0
   try clear hfz15_1
   try clear hfz9_0
   try clear hfz9_1
   obtain ⟨kq, x4_4, x5_4, rfl, rfl, HA, HJ4, HO_3, BK157, HB⟩ := hcut
   cases kq with
   | zero => exact absurd HA.out (by simp [spec_FoldField.j0])
   | succ kj4 =>
    have H := HA.out
    clear HA
    simp only [spec_FoldField.j0] at H
    have H' := ak H; clear H
    go_wp2
    go_loopg [3, 4, 5] kj4 (fun kq v3 v4 v5 w' => ∃ (x3_2 : List ByteArray) (x4_2 : ByteArray) (x5_2 : Int), v4 = .string x4_2 ∧ v5 = .int .i64 x5_2 ∧ Aside0 (spec_FoldField.l0 kq x3_2 x4_2 x5_2 = some r) ∧ Aside0 (kq ≤ kj4) ∧ Aside0 (Kd.R Kd.string 9 w' w.heap.size (fun _ => True) v3 x3_2) ∧ Aside0 (w'.heap[gb157]? = some (.cells #[.string a0_0, .string a0_1] 69 (0, 0))) ∧ Aside0 (Below w.heap.size w w'))
    case atStart => exact ⟨(y158), (x4_4), (x5_4), rs, rs, H', ⟨Nat.le_refl _⟩, ⟨ur HO_3.out⟩, ⟨ub BK157.out⟩, ⟨bb⟩⟩
    case round =>
     clear H'
     try clear c1
     try clear p2
     try clear c3
     try clear c4
     try clear c4b0
     try clear c4b1
     try clear c4b2
     try clear p6
     try clear c12
     try clear c12b0
     try clear c12b1
     try clear c13
     try clear c13b0
     try clear c13b1
     try clear c13b2
     try clear c14
     try clear c14b0
     try clear c14b1
     try clear c14b2
     try clear c15
     try clear hcz11_0
     try clear hcz11_1
     try clear hcz15_0
     try clear hcz15_1
     try clear hcz9_0
     try clear hcz9_1
     try clear hfz11_0
     try clear hfz11_1
     try clear hfz15_0
     try clear hfz15_1
     try clear hfz9_0
     try clear hfz9_1
     try clear p2
     try clear p6
     obtain ⟨x3_2, x4_2, x5_2, rfl, rfl, HA, HK2, HO_3, BK157, HB⟩ := hrel
     cases gk with
     | zero => exact absurd HA.out (by simp [spec_FoldField.l0])
     | succ k2 =>
      have H := HA.out
      clear HA
      simp only [spec_FoldField.l0] at H
      replace H := sp H
      rcases H with ⟨c16, H⟩ | ⟨c16, H⟩
      ·
       have c16b0 : decide (40 < (x4_2.size : Int)) = true := decide_eq_true c16
       have c16b1 : decide (40 < x4_2.size) = true := decide_eq_true (by omega)
       clear c16
       replace H := bd H; obtain ⟨t162, A17, H⟩ := H; replace H := sd H
       rcases H with ⟨c18b0, H⟩ | ⟨c18b0, H⟩
       ·
        replace H := nl H; obtain ⟨LMc19, H⟩ := H
        obtain ⟨y163, Ny163⟩ := nm (x3_2 ++ [x4_2])
        rw [← Ny163.out] at H
        (try rw [Option.bind_some] at H)
        obtain rfl := Option.some.inj H
        go_wp2_with (first | (refine gL 176 32 Tryz.func176 #[.string x4_2, .int .i64 x5_2] ?_; (with_reducible refine (spec_l3Break.calls k2 x4_2 x5_2 t162 _ A17.out).mono ?_); rintro e w' ⟨rfl, ⟨nd, rfl⟩⟩; refine ⟨_, rfl, ?_⟩) | ((with_reducible refine gate_builtin (b := .append) (xs := #[.tmp 44, .tmp 46]) rfl ?_); at_builtin; refine Kd.R_append Kd.string (w0 := w) w.heap.size rfl (.tmp 44) (.tmp 46) 23 9 (.string ⟨#[]⟩) 16 rfl Tryz.underlying23 info9 rfl (by decide) (by omega) u3 x3_2 x4_2 [.string x4_2] (fun _ => True) (fun _ => False) rfl rfl ?aP (fun _ hk => hk.elim) ?aF ?aO ?aB ?aS ?aL ?_; (case aP => exact rfl); (case aB => exact bb); (case aF => exact (fun _ _ => trivial)); (case aO => exact (ur HO_3.out)); (case aS => exact (below_size bb)); (case aL => have := LMc19.out; omega); intro v164 w20 ho hb hg hat; rw [← Ny163.out] at ho; have n0_ := ak (blk_grown (g := gb157) (o := .cells #[.string a0_0, .string a0_1] 69 (0, 0)) (ub BK157.out) hg (Kd.R_ne HO_3.out BK157.out (by decide))); have n1_ := ak (hb); have n2_ := ak (ho); clear BK157; clear HB; clear HO_3; have BK157 := n0_; have HB := n1_; have HO165 := n2_; clear n0_ n1_ n2_; clear ho hb hg hat))
        go_ret
        exact ⟨_, er, ur HO165.out, bb⟩
       ·
        replace H := ne_ H; obtain ⟨c21b0, c21b1, H⟩ := H; replace H := ne_ H; obtain ⟨c22b0, c22b1, H⟩ := H; replace H := nl H; obtain ⟨LMc23, H⟩ := H
        obtain ⟨y166, Ny166⟩ := nm (x3_2 ++ [x4_2.extract 0 (t162 : Int).toNat])
        rw [← Ny166.out] at H
        (try rw [Option.bind_some] at H)
        have c24b0 := eq_true (of_decide_eq_true (by assumption) : 0 ≤ t162)
        have c25b0 := eq_true (of_decide_eq_true (by assumption) : t162 ≤ (x4_2.size : Int))
        have H' := ak H; clear H
        go_wp2_with (first | (refine gL 176 32 Tryz.func176 #[.string x4_2, .int .i64 x5_2] ?_; (with_reducible refine (spec_l3Break.calls k2 x4_2 x5_2 t162 _ A17.out).mono ?_); rintro e w' ⟨rfl, ⟨nd, rfl⟩⟩; refine ⟨_, rfl, ?_⟩) | ((with_reducible refine gate_builtin (b := .append) (xs := #[.tmp 35, .tmp 39]) rfl ?_); at_builtin; refine Kd.R_append Kd.string (w0 := w) w.heap.size rfl (.tmp 35) (.tmp 39) 23 9 (.string ⟨#[]⟩) 16 rfl Tryz.underlying23 info9 rfl (by decide) (by omega) u3 x3_2 (x4_2.extract 0 (t162 : Int).toNat) [.string (x4_2.extract 0 (t162 : Int).toNat)] (fun _ => True) (fun _ => False) rfl rfl ?aP (fun _ hk => hk.elim) ?aF ?aO ?aB ?aS ?aL ?_; (case aP => exact rfl); (case aB => exact bb); (case aF => exact (fun _ _ => trivial)); (case aO => exact (ur HO_3.out)); (case aS => exact (below_size bb)); (case aL => have := LMc23.out; omega); intro v167 w26 ho hb hg hat; rw [← Ny166.out] at ho; have n0_ := ak (blk_grown (g := gb157) (o := .cells #[.string a0_0, .string a0_1] 69 (0, 0)) (ub BK157.out) hg (Kd.R_ne HO_3.out BK157.out (by decide))); have n1_ := ak (hb); have n2_ := ak (ho); clear BK157; clear HB; clear HO_3; have BK157 := n0_; have HB := n1_; have HO168 := n2_; clear n0_ n1_ n2_; clear ho hb hg hat))
        go_roundg k2
        case measure => have := HJ4.out; have := HK2.out; omega
        case rel => exact ⟨(y166), (x4_2.extract (t162 : Int).toNat x4_2.size), (1), rs, rs, H', ⟨by have := HJ4.out; have := HK2.out; omega⟩, ⟨ur HO168.out⟩, ⟨ub BK157.out⟩, ⟨bb⟩⟩
      ·
       have c16b0 : decide (40 < (x4_2.size : Int)) = false := decide_eq_false c16
       have c16b1 : decide (40 < x4_2.size) = false := decide_eq_false (by omega)
       clear c16
       replace H := nl H; obtain ⟨LMc27, H⟩ := H
       obtain ⟨y169, Ny169⟩ := nm (x3_2 ++ [x4_2])
       rw [← Ny169.out] at H
       (try rw [Option.bind_some] at H)
       obtain rfl := Option.some.inj H
       go_wp2_with (first | ((with_reducible refine gate_builtin (b := .append) (xs := #[.tmp 44, .tmp 46]) rfl ?_); at_builtin; refine Kd.R_append Kd.string (w0 := w) w.heap.size rfl (.tmp 44) (.tmp 46) 23 9 (.string ⟨#[]⟩) 16 rfl Tryz.underlying23 info9 rfl (by decide) (by omega) u3 x3_2 x4_2 [.string x4_2] (fun _ => True) (fun _ => False) rfl rfl ?aP (fun _ hk => hk.elim) ?aF ?aO ?aB ?aS ?aL ?_; (case aP => exact rfl); (case aB => exact bb); (case aF => exact (fun _ _ => trivial)); (case aO => exact (ur HO_3.out)); (case aS => exact (below_size bb)); (case aL => have := LMc27.out; omega); intro v170 w28 ho hb hg hat; rw [← Ny169.out] at ho; have n0_ := ak (blk_grown (g := gb157) (o := .cells #[.string a0_0, .string a0_1] 69 (0, 0)) (ub BK157.out) hg (Kd.R_ne HO_3.out BK157.out (by decide))); have n1_ := ak (hb); have n2_ := ak (ho); clear BK157; clear HB; clear HO_3; have BK157 := n0_; have HB := n1_; have HO171 := n2_; clear n0_ n1_ n2_; clear ho hb hg hat))
       go_ret
       exact ⟨_, er, ur HO171.out, bb⟩
 ·
  obtain rfl := Option.some.inj H
  go_enter Tryz.func153, Tryz.ntmps153
  go_wp2_with (first | (refine bE 1 #[.string a0_0, .string a0_1] 69 ?_; intro gb157 hg w29 hbox hb; have BK157 := ak (hbox); have GW157 := ge_ HB hg; have GE157 := ge_ HB hg; replace HB := bs HB hb; clear hb hbox hg) | ((with_reducible refine gate_dst (N := 7) rfl ?_); refine Kd.R_lit Kd.string _ 9 ?hg (N := 7) ?hd (xs := ([] : List ByteArray)) (inner := []) (ok := fun _ => True) (okp := fun _ => True) ?hr ?hp (fun _ hk => hk) trivial (Below.refl _ _) (Nat.le_refl _) (by simp) ?_; (case hd => rfl); (case hg => rfl); (case hr => first | (go_simp; done) | (go_simp; rfl)); (case hp => exact (Reps.none _ _)); intro v159 w30 ho31 hb hg_ hnew_; clear hg_ hnew_; (first | rw [← Ny158.out] at ho31 | (simp only [Int.reduceToNat] at ho31; rw [← Ny158.out] at ho31)); have HO160 := ak (Kd.R_lower ho31 (below_size bb)); replace BK157 := kb BK157 hb; replace HB := ak (below_step bb hb); clear hb ho31; obtain ⟨hcz32_0, hcz32_1, hfz32_0, hfz32_1⟩ := cz2 BK157.out) | (refine gL 158 9 Tryz.func158 #[.agg #[.string a0_0, .string a0_1]] ?_; (with_reducible refine (spec_FieldValid.calls k a0_0 a0_1 false _ A2.out).mono ?_); rintro e w33 ⟨rfl, hb⟩; refine ⟨_, rfl, ?_⟩; replace HO160 := rb HO160 hb; replace BK157 := kb BK157 hb; replace HB := ak (below_step bb hb); (try clear hb)))
  go_ret
  exact ⟨_, er, ur HO160.out, bb⟩
def spec_FoldFields.l0 : Nat → List (S69) → List ByteArray → Int → Option (List ByteArray × Bool)
 | 0, _, _, _ => none
 | k + 1, x0, x4, x5 => if x5 < (x0.length : Int) then (if 0 ≤ x5 then ((spec_FoldField.f k ((rd_T69 x0 x5).f0) ((rd_T69 x0 x5).f1)).bind fun t177 => (if x4.length + t177.length < 8796093022208 then (spec_FoldFields.l0 k x0 (x4 ++ t177) (wrap64 (x5 + 1))) else (none))) else (none)) else (some (x4, true))
def spec_FoldFields.f (k : Nat) (l0 : List (S69)) : Option (List ByteArray × Bool) := (some (([] : List ByteArray) : List ByteArray)).bind fun y172 => ((spec_l3Valid.f k l0).bind fun t175 => (if t175 = true then (spec_FoldFields.l0 k l0 y172 0) else (some (y172, false))))
set_option maxHeartbeats 8000000 in
set_option maxRecDepth 100000 in
theorem spec_FoldFields.calls (k : Nat) (A0 : Option Addr) (c0 : Nat) (l0 : List (S69)) (r1 : List ByteArray) (r2 : Bool) (w : World) (hr0 : Kd.C k69 w A0 l0.length l0) (hc0 : l0.length ≤ c0) (h : spec_FoldFields.f k l0 = some (r1, r2)) :
  Calls Tryz.prog 107 #[.slice A0 l0.length c0] w fun e w' => ∃ v0_ : Value, e = .returned (.tuple #[v0_, .bool r2]) ∧ Kd.R Kd.string 9 w' w.heap.size (fun _ => True) v0_ r1 ∧ Below w.heap.size w w' := by
 have hu69 := Tryz.underlying69
 have HR0 := ak hr0
 have HC0 := ak hc0
 clear hr0 hc0
 have HB := ak (Below.refl w.heap.size w)
 have H : ((some (([] : List ByteArray) : List ByteArray)).bind fun y172 => ((spec_l3Valid.f k l0).bind fun t175 => (if t175 = true then (spec_FoldFields.l0 k l0 y172 0) else (some (y172, false))))) = some (r1, r2) := h
 clear h
 obtain ⟨y172, Ny172⟩ := nm ([] : List ByteArray)
 rw [← Ny172.out] at H
 (try rw [Option.bind_some] at H)
 replace H := bd H; obtain ⟨t175, A2, H⟩ := H; replace H := sb H
 rcases H with ⟨rfl, H⟩ | ⟨rfl, H⟩
 ·
  have H' := ak H; clear H
  go_enter Tryz.func107, Tryz.ntmps107
  go_wp2_with (first | ((with_reducible refine gate_dst (N := 6) rfl ?_); refine Kd.R_lit Kd.string _ 9 ?hg (N := 6) ?hd (xs := ([] : List ByteArray)) (inner := []) (ok := fun _ => True) (okp := fun _ => True) ?hr ?hp (fun _ hk => hk) trivial (Below.refl _ _) (Nat.le_refl _) (by simp) ?_; (case hd => rfl); (case hg => rfl); (case hr => first | (go_simp; done) | (go_simp; rfl)); (case hp => exact (Reps.none _ _)); intro v173 w4 ho5 hb hg_ hnew_; clear hg_ hnew_; (first | rw [← Ny172.out] at ho5 | (simp only [Int.reduceToNat] at ho5; rw [← Ny172.out] at ho5)); have HO174 := ak (Kd.R_lower ho5 (below_size (ul HB.out))); replace HB := bs HB hb; clear hb ho5) | (refine gL 113 8 Tryz.func113 #[.slice A0 l0.length c0] ?_; (with_reducible refine (spec_l3Valid.calls k _ _ l0 true _ (cu (Kd.C_below HR0.out HB.out)) HC0.out A2.out).mono ?_); rintro e w6 ⟨rfl, hb⟩; refine ⟨_, rfl, ?_⟩; replace HO174 := rb HO174 hb; replace HB := bs HB hb; (try clear hb)))
  go_loopg [4, 5] k (fun kq v4 v5 w' => ∃ (x4_1 : List ByteArray) (x5_1 : Int), v5 = .int .i64 x5_1 ∧ Aside0 (spec_FoldFields.l0 kq l0 x4_1 x5_1 = some (r1, r2)) ∧ Aside0 (kq ≤ k) ∧ Aside0 (Kd.R Kd.string 9 w' w.heap.size (fun _ => True) v4 x4_1) ∧ Aside0 (Below w.heap.size w w'))
  case atStart => exact ⟨(y172), (0), rs, H', ⟨Nat.le_refl _⟩, ⟨ur HO174.out⟩, ⟨ul HB.out⟩⟩
  case round =>
   clear H'
   try clear c1
   try clear p2
   try clear c3
   obtain ⟨x4_1, x5_1, rfl, HA, HK1, HO_4, HB⟩ := hrel
   cases gk with
   | zero => exact absurd HA.out (by simp [spec_FoldFields.l0])
   | succ k1 =>
    have H := HA.out
    clear HA
    simp only [spec_FoldFields.l0] at H
    replace H := sd H
    rcases H with ⟨c7b0, H⟩ | ⟨c7b0, H⟩
    ·
     replace H := nde H; obtain ⟨c8b0, H⟩ := H; replace H := bd H; obtain ⟨t177, A9, H⟩ := H; replace H := nl H; obtain ⟨LMc10, H⟩ := H
     obtain ⟨y180, Ny180⟩ := nm (x4_1 ++ t177)
     rw [← Ny180.out] at H
     (try rw [Option.bind_some] at H)
     have H' := ak H; clear H
     have p176 := zi x5_1
     have q176 := zj x5_1 l0.length
     obtain ⟨ad176, e176, hx176_0, hx176_1⟩ := at_T69 HR0.out x5_1 p176 q176
     cases e176
     replace hx176_0 := cl HB.out hx176_0
     replace hx176_1 := cl HB.out hx176_1
     replace p176 := eq_true p176
     replace q176 := eq_true q176
     go_wp2_with (first | (refine gL 153 22 Tryz.func153 #[.agg #[.string ((rd_T69 l0 x5_1).f0), .string ((rd_T69 l0 x5_1).f1)]] ?_; (with_reducible refine (spec_FoldField.calls k1 ((rd_T69 l0 x5_1).f0) ((rd_T69 l0 x5_1).f1) t177 _ A9.out).mono ?_); rintro e w11 ⟨v178, rfl, ho0, hb⟩; refine ⟨_, rfl, ?_⟩; have HO179 := ak (Kd.R_lower (Kd.R_new' ho0 (Kd.R_lt (ur HO_4.out))) (below_size (ul HB.out))); replace HO_4 := ak (Kd.R_elder' (ur HO_4.out) (Kd.R_base ho0) hb); replace HB := bs HB hb; (try clear hb); (try clear ho0); obtain ⟨Ao13, co13, eo13⟩ := Kd.R_slice HO179.out; subst eo13) | ((with_reducible refine gate_builtin (b := .append) (xs := #[.tmp 17, .tmp 22]) rfl ?_); at_builtin; refine Kd.R_append_rows Kd.string (w0 := w) w.heap.size rfl (.tmp 17) (.tmp 22) 23 9 (.string ⟨#[]⟩) 16 rfl Tryz.underlying23 info9 rfl (by decide) (by omega) u4 x4_1 t177 _ _ _ (fun k_ => some k_ ≠ (.slice Ao13 t177.length co13 : Value).ownBlock) (fun _ => False) rfl rfl ?aO ?aR (fun _ _ h => h) (fun _ h => h.elim) ?aF ?aB ?aS ?aL ?_; (case aR => repeat (first | exact (Kd.R_reads' HO179.out).2.2 | (with_reducible refine Kd.C_alloc ?_ _) | (with_reducible refine Kd.C_drewN ?_ _) | (with_reducible refine Kd.C_drew ?_))); (case aB => exact (ul HB.out)); (case aF => exact (fun k_ hk => Kd.fresh' (Kd.R_lt (ur HO179.out)) k_ hk)); (case aO => exact (ur (Kd.R_mono HO_4.out (fun _ hk => hk.2)))); (case aS => exact (below_size (ul HB.out))); (case aL => have := LMc10.out; omega); intro v181 w12 ho hb hg hat; rw [← Ny180.out] at ho; have n0_ := ak (Kd.R_after (ok := (fun _ => True)) (ur HO179.out) hg hat); have n1_ := ak (hb); have n2_ := ak (ho); clear HO179; clear HB; clear HO_4; have HO179 := n0_; have HB := n1_; have HO182 := n2_; clear n0_ n1_ n2_; clear ho hb hg hat))
     go_roundg k1
     case measure => have := HK1.out; omega
     case rel => exact ⟨(y180), (wrap64 (x5_1 + 1)), rs, H', ⟨by have := HK1.out; omega⟩, ⟨ur (Kd.R_mono HO182.out (fun _ hk => trivial))⟩, ⟨ul HB.out⟩⟩
    ·
     simp only [Option.some.injEq, Prod.mk.injEq] at H
     obtain ⟨rfl, rfl⟩ := H
     go_wp2
     go_ret2
     exact ⟨_, er, ur HO_4.out, ul HB.out⟩
 ·
  simp only [Option.some.injEq, Prod.mk.injEq] at H
  obtain ⟨rfl, rfl⟩ := H
  go_enter Tryz.func107, Tryz.ntmps107
  go_wp2_with (first | ((with_reducible refine gate_dst (N := 6) rfl ?_); refine Kd.R_lit Kd.string _ 9 ?hg (N := 6) ?hd (xs := ([] : List ByteArray)) (inner := []) (ok := fun _ => True) (okp := fun _ => True) ?hr ?hp (fun _ hk => hk) trivial (Below.refl _ _) (Nat.le_refl _) (by simp) ?_; (case hd => rfl); (case hg => rfl); (case hr => first | (go_simp; done) | (go_simp; rfl)); (case hp => exact (Reps.none _ _)); intro v173 w14 ho15 hb hg_ hnew_; clear hg_ hnew_; (first | rw [← Ny172.out] at ho15 | (simp only [Int.reduceToNat] at ho15; rw [← Ny172.out] at ho15)); have HO174 := ak (Kd.R_lower ho15 (below_size (ul HB.out))); replace HB := bs HB hb; clear hb ho15) | (refine gL 113 8 Tryz.func113 #[.slice A0 l0.length c0] ?_; (with_reducible refine (spec_l3Valid.calls k _ _ l0 false _ (cu (Kd.C_below HR0.out HB.out)) HC0.out A2.out).mono ?_); rintro e w16 ⟨rfl, hb⟩; refine ⟨_, rfl, ?_⟩; replace HO174 := rb HO174 hb; replace HB := bs HB hb; (try clear hb)))
  go_ret2
  exact ⟨_, er, ur HO174.out, ul HB.out⟩
def spec_LowerText.f (a0 : ByteArray) : Option (ByteArray) := if a0.size ≤ 140737488355328 then some (strOfNums ((bytesOf a0).map lowI)) else none
set_option maxHeartbeats 1000000 in
set_option maxRecDepth 100000 in
theorem spec_LowerText.calls (a0 : ByteArray) (r : ByteArray) (w : World) (h : spec_LowerText.f a0 = some r) :
  Calls Tryz.prog 180 #[.string a0] w fun e w' => e = .returned (.string r) ∧ Below w.heap.size w w' := by
 unfold spec_LowerText.f at h
 split at h
 ·
  rename_i hb
  injection h with h
  subst h
  have kb := fun W => print_bytes (P := Tryz.prog) 9 22 5 Tryz.underlying9 Tryz.underlying22 Tryz.underlying5 a0 W
  go_enter Tryz.func180, Tryz.ntmps180
  go_wp2
  go_loopw [4] (fun i W => ∃ k : Nat, k ≤ a0.size ∧ i = .int .i64 k ∧ LowRow w w.heap.size (lowN (bytesOf a0) k) W) (fun i _ => a0.size - (intOf i).toNat)
  case atStart => exact ⟨0, Nat.zero_le _, rfl, by simpa [lowN] using lowRow_start w 5 a0⟩
  case round =>
   obtain ⟨k, hk, rfl, hR⟩ := hrel
   have HR := ak hR
   by_cases hlt : k < a0.size
   ·
    have hc := hR.cell k (by rw [lowN_length, bytesOf_length]; exact hlt)
    have hf := hR.free k (by rw [lowN_length, bytesOf_length]; exact hlt)
    rw [lowN_at _ _ (by rw [bytesOf_length]; exact hlt)] at hc
    clear hR
    have hr := bytesOf_range a0 k
    have hs := ak (lowN_skip (bytesOf a0) k (by rw [bytesOf_length]; exact hlt))
    have hu := ak (lowN_succ (bytesOf a0) k (by rw [bytesOf_length]; exact hlt))
    generalize (bytesOf a0).getD k 0 = c at hc hr hs hu
    go_wp2
    ·
     go_roundw
     case rel => exact ⟨k + 1, by omega, by go_num, by
      rw [hu.out, lowI, if_pos ⟨by omega, by omega⟩]
      exact HR.out.store (Nat.le_refl _) k (by rw [lowN_length, bytesOf_length]; exact hlt) _⟩
     case measure => simp [intOf]; omega
    ·
     go_roundw
     case rel => exact ⟨k + 1, by omega, by go_num, by rw [hs.out (by omega)]; exact HR.out⟩
     case measure => simp [intOf]; omega
    ·
     go_roundw
     case rel => exact ⟨k + 1, by omega, by go_num, by rw [hs.out (by omega)]; exact HR.out⟩
     case measure => simp [intOf]; omega
   ·
    clear hR
    have kd := run_convert_bytes_arg (P := Tryz.prog) wr 22 5 Tryz.underlying22 Tryz.underlying5 w.heap.size 0 a0.size (grownCap w a0.size 0 5) (lowN (bytesOf a0) k) (by rw [lowN_length, bytesOf_length]) (fun i hi => by
     rw [Nat.zero_add]; exact HR.out.cell i (by rw [lowN_length, bytesOf_length]; exact hi)) 9 Tryz.underlying9
    go_wp2
    go_ret
    have hk2 : k = a0.size := by omega
    exact ⟨by rw [hk2, lowN_all (bytesOf a0) a0.size (bytesOf_length a0)]; rfl, HR.out.below⟩
 ·
  cases h
def spec_SameText.f (a0 : ByteArray) (a1 : ByteArray) : Option (Bool) := (spec_LowerText.f a0).bind fun t183 => ((spec_LowerText.f a1).bind fun t184 => (some (t183.toList == t184.toList)))
set_option maxHeartbeats 8000000 in
set_option maxRecDepth 100000 in
theorem spec_SameText.calls (a0 : ByteArray) (a1 : ByteArray) (r : Bool) (w : World) (h : spec_SameText.f a0 a1 = some r) :
  Calls Tryz.prog 197 #[.string a0, .string a1] w fun e w' => e = .returned (.bool r) ∧ Below w.heap.size w w' := by
 have HB := ak (Below.refl w.heap.size w)
 have H : ((spec_LowerText.f a0).bind fun t183 => ((spec_LowerText.f a1).bind fun t184 => (some (t183.toList == t184.toList)))) = some r := h
 clear h
 replace H := bd H; obtain ⟨t183, A3, H⟩ := H; replace H := bd H; obtain ⟨t184, A4, H⟩ := H
 obtain rfl := Option.some.inj H
 go_enter Tryz.func197, Tryz.ntmps197
 go_wp2_with (first | (refine gL 180 6 Tryz.func180 #[.string a0] ?_; (with_reducible refine (spec_LowerText.calls a0 t183 _ A3.out).mono ?_); rintro e w5 ⟨rfl, hb⟩; refine ⟨_, rfl, ?_⟩; replace HB := bs HB hb; (try clear hb)) | (refine gL 180 8 Tryz.func180 #[.string a1] ?_; (with_reducible refine (spec_LowerText.calls a1 t184 _ A4.out).mono ?_); rintro e w6 ⟨rfl, hb⟩; refine ⟨_, rfl, ?_⟩; replace HB := bs HB hb; (try clear hb)))
 go_ret
 exact ⟨er, ul HB.out⟩
def spec_l3Find.l0 : Nat → List (S69) → ByteArray → Int → Option (Int)
 | 0, _, _, _ => none
 | k + 1, x0, x1, x5 => if x5 < (x0.length : Int) then (if 0 ≤ x5 then ((spec_SameText.f ((rd_T69 x0 x5).f0) x1).bind fun t186 => (if t186 = true then (some x5) else (spec_l3Find.l0 k x0 x1 (wrap64 (x5 + 1))))) else (none)) else (some (-1))
def spec_l3Find.f (k : Nat) (l0 : List (S69)) (a1 : ByteArray) : Option (Int) := spec_l3Find.l0 k l0 a1 0
set_option maxHeartbeats 8000000 in
set_option maxRecDepth 100000 in
theorem spec_l3Find.calls (k : Nat) (A0 : Option Addr) (c0 : Nat) (l0 : List (S69)) (a1 : ByteArray) (r : Int) (w : World) (hr0 : Kd.C k69 w A0 l0.length l0) (hc0 : l0.length ≤ c0) (h : spec_l3Find.f k l0 a1 = some r) :
  Calls Tryz.prog 177 #[.slice A0 l0.length c0, .string a1] w fun e w' => e = .returned (.int .i64 r) ∧ Below w.heap.size w w' := by
 have HR0 := ak hr0
 have HC0 := ak hc0
 clear hr0 hc0
 have HB := ak (Below.refl w.heap.size w)
 have H : (spec_l3Find.l0 k l0 a1 0) = some r := h
 clear h
 have H' := ak H; clear H
 go_enter Tryz.func177, Tryz.ntmps177
 go_wp2
 go_loopg [5] k (fun kq v5 w' => ∃ (x5_1 : Int), v5 = .int .i64 x5_1 ∧ Aside0 (spec_l3Find.l0 kq l0 a1 x5_1 = some r) ∧ Aside0 (kq ≤ k) ∧ Aside0 (Below w.heap.size w w'))
 case atStart => exact ⟨(0), rs, H', ⟨Nat.le_refl _⟩, ⟨ul HB.out⟩⟩
 case round =>
  clear H'
  try clear c1
  try clear p2
  obtain ⟨x5_1, rfl, HA, HK1, HB⟩ := hrel
  cases gk with
  | zero => exact absurd HA.out (by simp [spec_l3Find.l0])
  | succ k1 =>
   have H := HA.out
   clear HA
   simp only [spec_l3Find.l0] at H
   replace H := sd H
   rcases H with ⟨c3b0, H⟩ | ⟨c3b0, H⟩
   ·
    replace H := nde H; obtain ⟨c4b0, H⟩ := H; replace H := bd H; obtain ⟨t186, A5, H⟩ := H; replace H := sb H
    rcases H with ⟨rfl, H⟩ | ⟨rfl, H⟩
    ·
     obtain rfl := Option.some.inj H
     have p185 := zi x5_1
     have q185 := zj x5_1 l0.length
     obtain ⟨ad185, e185, hx185_0, hx185_1⟩ := at_T69 HR0.out x5_1 p185 q185
     cases e185
     replace hx185_0 := cl HB.out hx185_0
     replace hx185_1 := cl HB.out hx185_1
     replace p185 := eq_true p185
     replace q185 := eq_true q185
     go_wp2_with (first | (refine gL 197 18 Tryz.func197 #[.string ((rd_T69 l0 x5_1).f0), .string a1] ?_; (with_reducible refine (spec_SameText.calls ((rd_T69 l0 x5_1).f0) a1 true _ A5.out).mono ?_); rintro e w7 ⟨rfl, hb⟩; refine ⟨_, rfl, ?_⟩; replace HB := bs HB hb; (try clear hb)))
     go_ret
     exact ⟨er, ul HB.out⟩
    ·
     have H' := ak H; clear H
     have p185 := zi x5_1
     have q185 := zj x5_1 l0.length
     obtain ⟨ad185, e185, hx185_0, hx185_1⟩ := at_T69 HR0.out x5_1 p185 q185
     cases e185
     replace hx185_0 := cl HB.out hx185_0
     replace hx185_1 := cl HB.out hx185_1
     replace p185 := eq_true p185
     replace q185 := eq_true q185
     go_wp2_with (first | (refine gL 197 18 Tryz.func197 #[.string ((rd_T69 l0 x5_1).f0), .string a1] ?_; (with_reducible refine (spec_SameText.calls ((rd_T69 l0 x5_1).f0) a1 false _ A5.out).mono ?_); rintro e w8 ⟨rfl, hb⟩; refine ⟨_, rfl, ?_⟩; replace HB := bs HB hb; (try clear hb)))
     go_roundg k1
     case measure => have := HK1.out; omega
     case rel => exact ⟨(wrap64 (x5_1 + 1)), rs, H', ⟨by have := HK1.out; omega⟩, ⟨ul HB.out⟩⟩
   ·
    obtain rfl := Option.some.inj H
    go_wp2
    go_ret
    exact ⟨er, ul HB.out⟩
def spec_GetField.f (k : Nat) (l0 : List (S69)) (a1 : ByteArray) : Option (ByteArray × Bool) := (spec_l3Find.f k l0 a1).bind fun t187 => (if t187 < 0 then (some ((⟨#[]⟩ : ByteArray), false)) else (if 0 ≤ t187 then (if t187 < (l0.length : Int) then (some ((rd_T69 l0 t187).f1, true)) else (none)) else (none)))
set_option maxHeartbeats 8000000 in
set_option maxRecDepth 100000 in
theorem spec_GetField.calls (k : Nat) (A0 : Option Addr) (c0 : Nat) (l0 : List (S69)) (a1 : ByteArray) (r1 : ByteArray) (r2 : Bool) (w : World) (hr0 : Kd.C k69 w A0 l0.length l0) (hc0 : l0.length ≤ c0) (h : spec_GetField.f k l0 a1 = some (r1, r2)) :
  Calls Tryz.prog 154 #[.slice A0 l0.length c0, .string a1] w fun e w' => e = .returned (.tuple #[.string r1, .bool r2]) ∧ Below w.heap.size w w' := by
 have HR0 := ak hr0
 have HC0 := ak hc0
 clear hr0 hc0
 have HB := ak (Below.refl w.heap.size w)
 have H : ((spec_l3Find.f k l0 a1).bind fun t187 => (if t187 < 0 then (some ((⟨#[]⟩ : ByteArray), false)) else (if 0 ≤ t187 then (if t187 < (l0.length : Int) then (some ((rd_T69 l0 t187).f1, true)) else (none)) else (none)))) = some (r1, r2) := h
 clear h
 replace H := bd H; obtain ⟨t187, A3, H⟩ := H; replace H := sd H
 rcases H with ⟨c4b0, H⟩ | ⟨c4b0, H⟩
 ·
  simp only [Option.some.injEq, Prod.mk.injEq] at H
  obtain ⟨rfl, rfl⟩ := H
  go_enter Tryz.func154, Tryz.ntmps154
  go_wp2_with (first | (refine gL 177 9 Tryz.func177 #[.slice A0 l0.length c0, .string a1] ?_; (with_reducible refine (spec_l3Find.calls k _ _ l0 a1 t187 _ (cu HR0.out) HC0.out A3.out).mono ?_); rintro e w5 ⟨rfl, hb⟩; refine ⟨_, rfl, ?_⟩; replace HB := bs HB hb; (try clear hb)))
  go_ret2
  exact ⟨er, ul HB.out⟩
 ·
  replace H := nde H; obtain ⟨c6b0, H⟩ := H; replace H := nde H; obtain ⟨c7b0, H⟩ := H
  simp only [Option.some.injEq, Prod.mk.injEq] at H
  obtain ⟨rfl, rfl⟩ := H
  go_enter Tryz.func154, Tryz.ntmps154
  go_wp2_with (first | (refine gL 177 9 Tryz.func177 #[.slice A0 l0.length c0, .string a1] ?_; (with_reducible refine (spec_l3Find.calls k _ _ l0 a1 t187 _ (cu HR0.out) HC0.out A3.out).mono ?_); rintro e w8 ⟨rfl, hb⟩; refine ⟨_, rfl, ?_⟩; replace HB := bs HB hb; (try clear hb); have p188 : 0 ≤ (t187 : Int) := of_decide_eq_true (by assumption); have q188 : t187 < (l0.length : Int) := of_decide_eq_true (by assumption); obtain ⟨ad188, e188, hx188_0, hx188_1⟩ := at_T69 HR0.out t187 p188 q188; cases e188; replace hx188_0 := (HB.out.cell (World.block_lt_of_cell? w _ hx188_0)).trans hx188_0; replace hx188_1 := (HB.out.cell (World.block_lt_of_cell? w _ hx188_1)).trans hx188_1; replace p188 := eq_true p188; replace q188 := eq_true q188))
  go_ret2
  exact ⟨er, ul HB.out⟩
def spec_l1Read.l0 : Nat → ByteArray → ByteArray → Int → Option (ByteArray × Int)
 | 0, _, _, _ => none
 | k + 1, x0, x6, x7 => if x7 < (x0.size : Int) then (if 0 ≤ x7 then (if (bt x0 x7) = 34 then (some (x6, wrap64 (x7 + 1))) else (if (bt x0 x7) = 92 then (if (wrap64 (x7 + 1)) = (x0.size : Int) then (some ((⟨#[]⟩ : ByteArray), (-1))) else (if 0 ≤ (wrap64 (x7 + 1)) then (if (wrap64 (x7 + 1)) ≤ (wrap64 ((wrap64 (x7 + 1)) + 1)) then (if (wrap64 ((wrap64 (x7 + 1)) + 1)) ≤ (x0.size : Int) then (if x6.size + (x0.extract ((wrap64 (x7 + 1)) : Int).toNat ((wrap64 ((wrap64 (x7 + 1)) + 1)) : Int).toNat).size ≤ 9223372036854775807 then (spec_l1Read.l0 k x0 (x6 ++ (x0.extract ((wrap64 (x7 + 1)) : Int).toNat ((wrap64 ((wrap64 (x7 + 1)) + 1)) : Int).toNat)) (wrap64 ((wrap64 (x7 + 1)) + 1))) else (none)) else (none)) else (none)) else (none))) else (if x7 ≤ (wrap64 (x7 + 1)) then (if (wrap64 (x7 + 1)) ≤ (x0.size : Int) then (if x6.size + (x0.extract (x7 : Int).toNat ((wrap64 (x7 + 1)) : Int).toNat).size ≤ 9223372036854775807 then (spec_l1Read.l0 k x0 (x6 ++ (x0.extract (x7 : Int).toNat ((wrap64 (x7 + 1)) : Int).toNat)) (wrap64 (x7 + 1))) else (none)) else (none)) else (none)))) else (none)) else (some ((⟨#[]⟩ : ByteArray), (-1)))
def spec_l1Read.f (k : Nat) (a0 : ByteArray) (a1 : Int) : Option (ByteArray × Int) := spec_l1Read.l0 k a0 (⟨#[]⟩ : ByteArray) (wrap64 (a1 + 1))
set_option maxHeartbeats 8000000 in
set_option maxRecDepth 100000 in
theorem spec_l1Read.calls (k : Nat) (a0 : ByteArray) (a1 : Int) (r1 : ByteArray) (r2 : Int) (w : World) (h : spec_l1Read.f k a0 a1 = some (r1, r2)) :
  Calls Tryz.prog 198 #[.string a0, .int .i64 a1] w fun e w' => e = .returned (.tuple #[.string r1, .int .i64 r2]) ∧ Drawn0 w w' := by
 have H : (spec_l1Read.l0 k a0 (⟨#[]⟩ : ByteArray) (wrap64 (a1 + 1))) = some (r1, r2) := h
 clear h
 have H' := ak H; clear H
 go_enter Tryz.func198, Tryz.ntmps198
 go_wp2
 go_loopg [6, 7] k (fun kq v6 v7 w' => ∃ (x6_1 : ByteArray) (x7_1 : Int), v6 = .string x6_1 ∧ v7 = .int .i64 x7_1 ∧ Aside0 (spec_l1Read.l0 kq a0 x6_1 x7_1 = some (r1, r2)) ∧ Aside0 (kq ≤ k) ∧ Drawn0 w w')
 case atStart => exact ⟨((⟨#[]⟩ : ByteArray)), (wrap64 (a1 + 1)), rs, rs, H', ⟨Nat.le_refl _⟩, dn⟩
 case round =>
  clear H'
  try clear c1
  try clear p2
  obtain ⟨x6_1, x7_1, rfl, rfl, HA, HK1, ⟨m1, rfl⟩⟩ := hrel
  cases gk with
  | zero => exact absurd HA.out (by simp [spec_l1Read.l0])
  | succ k1 =>
   have H := HA.out
   clear HA
   simp only [spec_l1Read.l0] at H
   replace H := sd H
   rcases H with ⟨c3b0, H⟩ | ⟨c3b0, H⟩
   ·
    replace H := nde H; obtain ⟨c4b0, H⟩ := H; replace H := sq H
    rcases H with ⟨c6b0, c6b1, H⟩ | ⟨c6, c6b0, c6b1, H⟩
    ·
     simp only [Option.some.injEq, Prod.mk.injEq] at H
     obtain ⟨rfl, rfl⟩ := H
     obtain ⟨p5, q5, hx5⟩ := bx a0 x7_1
     go_wp2
     go_ret2
     exact ⟨rs, dn⟩
    ·
     replace H := sq H
     rcases H with ⟨c8b0, c8b1, H⟩ | ⟨c8, c8b0, c8b1, H⟩
     ·
      replace H := sq H
      rcases H with ⟨c9b0, c9b1, H⟩ | ⟨c9, c9b0, c9b1, H⟩
      ·
       simp only [Option.some.injEq, Prod.mk.injEq] at H
       obtain ⟨rfl, rfl⟩ := H
       obtain ⟨p5, q5, hx5⟩ := bx a0 x7_1
       obtain ⟨p7, q7, hx7⟩ := bx a0 x7_1
       go_wp2
       go_ret2
       exact ⟨rs, dn⟩
      ·
       obtain ⟨ji10, hji10⟩ : ∃ j_ : Int, (wrap64 (x7_1 + 1)) = j_ := ⟨_, rfl⟩
       replace H : (if 0 ≤ (ji10) then (if (ji10) ≤ (wrap64 ((ji10) + 1)) then (if (wrap64 ((ji10) + 1)) ≤ (a0.size : Int) then (if x6_1.size + (a0.extract ((ji10) : Int).toNat ((wrap64 ((ji10) + 1)) : Int).toNat).size ≤ 9223372036854775807 then (spec_l1Read.l0 k1 a0 (x6_1 ++ (a0.extract ((ji10) : Int).toNat ((wrap64 ((ji10) + 1)) : Int).toNat)) (wrap64 ((ji10) + 1))) else (none)) else (none)) else (none)) else (none)) = some (r1, r2) := by first | (rw [hji10] at H; exact H) | (simp only [hji10] at H ⊢; exact H)
       (try rw [hji10] at c9b0)
       (try rw [hji10] at c9b1)
       have hji10w : (IntKind.i64.wrap (x7_1 + 1)) = ji10 := (i64_w _).trans hji10
       replace H := ne_ H; obtain ⟨c11b0, c11b1, H⟩ := H; replace H := nn H; obtain ⟨c12, H⟩ := H
       have c12b0 := eq_true c12
       have c12b1 := decide_eq_true c12
       replace H := nn H; obtain ⟨c13, H⟩ := H
       have c13b0 := eq_true c13
       have c13b1 := decide_eq_true c13
       replace H := nn H; obtain ⟨c14, H⟩ := H
       have c14b0 := eq_true c14
       have c14b1 := decide_eq_true c14
       try have c14b4 : (9223372036854775807 < x6_1.size + ((a0.extract ((ji10) : Int).toNat ((wrap64 ((ji10) + 1)) : Int).toNat).size)) = False := by have h_ := c14; simp only [ByteArray.size_append, ByteArray.size_extract] at h_; refine eq_false ?_; simp only [decide_eq_true_eq] at *; omega
       try have c14b2 : (9223372036854775807 < x6_1.size + (a0.extract ((ji10) : Int).toNat ((wrap64 ((ji10) + 1)) : Int).toNat).size) = False := eq_false (Nat.not_lt.2 c14)
       have H' := ak H; clear H
       obtain ⟨p5, q5, hx5⟩ := bx a0 x7_1
       obtain ⟨p7, q7, hx7⟩ := bx a0 x7_1
       go_wp2
       go_roundg k1
       case measure => have := HK1.out; omega
       case rel => exact ⟨(x6_1 ++ (a0.extract ((ji10) : Int).toNat ((wrap64 ((ji10) + 1)) : Int).toNat)), (wrap64 ((ji10) + 1)), (by first | rfl | (simp; done) | (simp only [← hji10] <;> (first | rfl | simp)) | (simp [*]; done)), (by first | rfl | (simp; done) | (simp only [← hji10] <;> (first | rfl | simp)) | (simp [*]; done)), H', ⟨by have := HK1.out; omega⟩, dn⟩
     ·
      have c15b0 := eq_true (of_decide_eq_true (by assumption) : 0 ≤ x7_1)
      replace H := nn H; obtain ⟨c16, H⟩ := H
      have c16b0 := eq_true c16
      have c16b1 := decide_eq_true c16
      replace H := nn H; obtain ⟨c17, H⟩ := H
      have c17b0 := eq_true c17
      have c17b1 := decide_eq_true c17
      replace H := nn H; obtain ⟨c18, H⟩ := H
      have c18b0 := eq_true c18
      have c18b1 := decide_eq_true c18
      try have c18b4 : (9223372036854775807 < x6_1.size + ((a0.extract (x7_1 : Int).toNat ((wrap64 (x7_1 + 1)) : Int).toNat).size)) = False := by have h_ := c18; simp only [ByteArray.size_append, ByteArray.size_extract] at h_; refine eq_false ?_; simp only [decide_eq_true_eq] at *; omega
      try have c18b2 : (9223372036854775807 < x6_1.size + (a0.extract (x7_1 : Int).toNat ((wrap64 (x7_1 + 1)) : Int).toNat).size) = False := eq_false (Nat.not_lt.2 c18)
      have H' := ak H; clear H
      obtain ⟨p5, q5, hx5⟩ := bx a0 x7_1
      obtain ⟨p7, q7, hx7⟩ := bx a0 x7_1
      go_wp2
      go_roundg k1
      case measure => have := HK1.out; omega
      case rel => exact ⟨(x6_1 ++ (a0.extract (x7_1 : Int).toNat ((wrap64 (x7_1 + 1)) : Int).toNat)), (wrap64 (x7_1 + 1)), rs, rs, H', ⟨by have := HK1.out; omega⟩, dn⟩
   ·
    simp only [Option.some.injEq, Prod.mk.injEq] at H
    obtain ⟨rfl, rfl⟩ := H
    go_wp2
    go_ret2
    exact ⟨rs, dn⟩
end Go.Proofs.YtncdadcmghglkaaGreatDoor.PFnExactCountParts
