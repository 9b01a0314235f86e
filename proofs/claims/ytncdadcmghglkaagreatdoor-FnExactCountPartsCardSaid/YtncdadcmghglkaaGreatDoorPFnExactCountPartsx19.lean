/- Printed walks; conditions: those in each statement. -/
import Derived.Test.YtncdadcmghglkaaGreatDoorVFnExactCountPartsQt
import Derived.Test.YtncdadcmghglkaaGreatDoorVFnExactCountPartsYt
import Derived.Test.YtncdadcmghglkaaGreatDoorPFnExactCountPartsx0
import Derived.Test.YtncdadcmghglkaaGreatDoorPFnExactCountPartsx17
import Derived.Test.YtncdadcmghglkaaGreatDoorPFnExactCountPartsx18
-- short
-- dense
-- sq
namespace Go.Proofs.YtncdadcmghglkaaGreatDoor.PFnExactCountParts
open Go.RowKit Go.Proofs.YtncdadcmghglkaaGreatDoor.X Go.Proofs.YtncdadcmghglkaaGreatDoorW.PrintWords Go.Proofs.YtncdadcmghglkaaGreatDoorW.PrintLast Go.Proofs.YtncdadcmghglkaaGreatDoorW.PrintMore
attribute [local go_sem] max2_int min2_int max_two min_two max_three min_three max_four min_four   -- for this text's walks alone
set_option linter.unusedVariables false
set_option linter.unusedSimpArgs false
mutual
def impl_JoinParts.j0 : Nat → List (List ByteArray) → Bool → ByteArray → Option (List ByteArray × Bool)
 | 0, _, _, _ => none
 | k + 1, x0, x21, x580000 => if x21 = true then (some (([] : List ByteArray), false)) else (impl_JoinParts.l0 k (([] : List ByteArray)) x0 (x0.length : Int) 0 x580000)
def impl_JoinParts.l0 : Nat → List ByteArray → List (List ByteArray) → Int → Int → ByteArray → Option (List ByteArray × Bool)
 | 0, _, _, _, _, _ => none
 | k + 1, x6, x23, x24, x25, x580000 => if x25 < x24 then (if 0 ≤ x25 then (if x25 < (x23.length : Int) then (if 2 + x580000.size ≤ 9223372036854775807 then (if x6.length < 8796093022208 then ((some (x6 ++ [(⟨#[45, 45]⟩ : ByteArray) ++ x580000] : List ByteArray)).bind fun y586 => (if y586.length + (rd_L3 x23 x25).length < 8796093022208 then (impl_JoinParts.l0 k (y586 ++ (rd_L3 x23 x25)) x23 x24 (wrap64 (x25 + 1)) x580000) else (none))) else (none)) else (none)) else (none)) else (none)) else (if 2 + x580000.size ≤ 9223372036854775807 then (if ((⟨#[45, 45]⟩ : ByteArray) ++ x580000).size + 2 ≤ 9223372036854775807 then (if x6.length < 8796093022208 then (some ((x6 ++ [((⟨#[45, 45]⟩ : ByteArray) ++ x580000) ++ (⟨#[45, 45]⟩ : ByteArray)]), true)) else (none)) else (none)) else (none))
end
def impl_JoinParts.f (k : Nat) (l0 : List (List ByteArray)) (a1 : ByteArray) : Option (List ByteArray × Bool) := (impl_isBoundary.f k a1).bind fun t580 => (if t580 = true then (if (l0.length : Int) = 0 then (impl_JoinParts.j0 k l0 true a1) else ((slices_ContainsFunc_string_string_JoinParts_1.f k l0 a1).bind fun t581 => (impl_JoinParts.j0 k l0 t581 a1))) else (impl_JoinParts.j0 k l0 true a1))
set_option maxHeartbeats 8000000 in
set_option maxRecDepth 100000 in
theorem impl_JoinParts.calls (k : Nat) (A0 : Option Addr) (c0 : Nat) (l0 : List (List ByteArray)) (a1 : ByteArray) (r1 : List ByteArray) (r2 : Bool) (w : World) (hr0 : Kd.C (Kd.slice 9 Kd.string) w A0 l0.length l0) (hc0 : l0.length ≤ c0) (h : impl_JoinParts.f k l0 a1 = some (r1, r2)) :
  Calls Tryz.prog 106 #[.slice A0 l0.length c0, .string a1] w fun e w' => ∃ v0_ : Value, e = .returned (.tuple #[v0_, .bool r2]) ∧ Kd.R Kd.string 9 w' w.heap.size (fun _ => True) v0_ r1 ∧ Below w.heap.size w w' := by
 have HR0 := ak hr0
 have HC0 := ak hc0
 clear hr0 hc0
 have HB := ak (Below.refl w.heap.size w)
 have H : ((impl_isBoundary.f k a1).bind fun t580 => (if t580 = true then (if (l0.length : Int) = 0 then (impl_JoinParts.j0 k l0 true a1) else ((slices_ContainsFunc_string_string_JoinParts_1.f k l0 a1).bind fun t581 => (impl_JoinParts.j0 k l0 t581 a1))) else (impl_JoinParts.j0 k l0 true a1))) = some (r1, r2) := h
 clear h
 have HC3 := ak H
 clear H
 go_enter Tryz.func106, Tryz.ntmps106
 go_upto_region 1 with (first | (refine gate_dst (N := 3) rfl ?_; (try (refine gate_guard (by rfl) ?_; dsimp only)); refine bE 3 #[.string a1] 9 ?_; intro gb579 hg w4 hbox hb; have BK579 := ak (hbox); have GW579 := ge_ HB hg; have GE579 := ge_ HB hg; replace HB := bs HB hb; clear hb hbox hg))
 (try simp only [Act.put, l_a, l_b, l_c])
 go_cut [21] (fun v21 wc => ∃ (kq : Nat) (x21_2 : Bool), v21 = .bool x21_2 ∧ Aside0 (impl_JoinParts.j0 kq l0 x21_2 a1 = some (r1, r2)) ∧ Aside0 (kq ≤ k) ∧ Aside0 (wc.heap[gb579]? = some (.cells #[.string a1] 9 (0, 0))) ∧ Aside0 (Below w.heap.size w wc))
 case first =>
  have H := HC3.out
  clear HC3
  replace H := bd H; obtain ⟨t580, A5, H⟩ := H; replace H := sb H
  rcases H with ⟨rfl, H⟩ | ⟨rfl, H⟩
  ·
   replace H := sp H
   rcases H with ⟨c7, H⟩ | ⟨c7, H⟩
   ·
    have c7b0 := beq_iff_eq.mpr c7
    have c7b1 := bne_eq_false_iff_eq.mpr c7
    clear c7
    (first | rw [c7b0] | (simp only [i64_w, i32_w]; rw [c7b0]) | skip)
    have H' := ak H; clear H
    have hcz8_0 : w4.cell? ⟨gb579, 0, none⟩ = some (.string a1) := (blk_cell BK579.out 0).trans rfl
    have hfz8_0 := blk_frozen BK579.out 0
    go_wp2_with (first | (refine gL 96 10 Tryz.func96 #[.string a1] ?_; (with_reducible refine (impl_isBoundary.calls k a1 true _ A5.out).mono ?_); rintro e w' ⟨rfl, ⟨nd, rfl⟩⟩; refine ⟨_, rfl, ?_⟩))
    go_meet
    case rel => exact ⟨_, (true), rs, H', ⟨le_⟩, ⟨ub BK579.out⟩, ⟨bb⟩⟩
   ·
    have c7b0 := beq_eq_false_iff_ne.mpr c7
    have c7b1 := bne_iff_ne.mpr c7
    have c7b2 : ¬ (l0 = []) := fun h_ => c7 (by rw [h_]; rfl)
    (first | rw [c7b0] | (simp only [i64_w, i32_w]; rw [c7b0]) | skip)
    replace H := bd H; obtain ⟨t581, A9, H⟩ := H
    have H' := ak H; clear H
    have hcz10_0 : w4.cell? ⟨gb579, 0, none⟩ = some (.string a1) := (blk_cell BK579.out 0).trans rfl
    have hfz10_0 := blk_frozen BK579.out 0
    go_wp2_with (first | (refine gL 96 10 Tryz.func96 #[.string a1] ?_; (with_reducible refine (impl_isBoundary.calls k a1 true _ A5.out).mono ?_); rintro e w' ⟨rfl, ⟨nd, rfl⟩⟩; refine ⟨_, rfl, ?_⟩) | (go_at_call 150; (with_reducible refine (slices_ContainsFunc_string_string_JoinParts_1.calls k _ _ l0 gb579 a1 t581 _ (cu (Kd.C_below HR0.out bb)) HC0.out (ub BK579.out) A9.out).mono ?_); rintro e w11 ⟨rfl, hb⟩; replace BK579 := kb BK579 hb; replace HB := ak (below_step bb hb); (try clear hb)))
    go_meet
    case rel => exact ⟨_, (t581), rs, H', ⟨le_⟩, ⟨ub BK579.out⟩, ⟨bb⟩⟩
  ·
   have H' := ak H; clear H
   have hcz12_0 : w4.cell? ⟨gb579, 0, none⟩ = some (.string a1) := (blk_cell BK579.out 0).trans rfl
   have hfz12_0 := blk_frozen BK579.out 0
   go_wp2_with (first | (refine gL 96 10 Tryz.func96 #[.string a1] ?_; (with_reducible refine (impl_isBoundary.calls k a1 false _ A5.out).mono ?_); rintro e w' ⟨rfl, ⟨nd, rfl⟩⟩; refine ⟨_, rfl, ?_⟩))
   go_meet
   case rel => exact ⟨_, (true), rs, H', ⟨le_⟩, ⟨ub BK579.out⟩, ⟨bb⟩⟩
 case rest =>
  clear HC3
  try clear c1
  try clear p2
  try clear c6
  try clear c7
  try clear c7b0
  try clear c7b1
  try clear c7b2
  try clear c9
  try clear c10
  try clear hcz10_0
  try clear hcz12_0
  try clear hcz8_0
  try clear hfz10_0
  try clear hfz12_0
  try clear hfz8_0
  obtain ⟨kq, x21_2, rfl, HA, HJ2, BK579, HB⟩ := hcut
  cases kq with
  | zero => exact absurd HA.out (by simp [impl_JoinParts.j0])
  | succ kj2 =>
   have H := HA.out
   clear HA
   simp only [impl_JoinParts.j0] at H
   replace H := sb H
   rcases H with ⟨rfl, H⟩ | ⟨rfl, H⟩
   ·
    simp only [Option.some.injEq, Prod.mk.injEq] at H
    obtain ⟨rfl, rfl⟩ := H
    go_wp2
    go_ret2
    exact ⟨_, er, nx, bb⟩
   ·
    obtain ⟨y582, Ny582⟩ := nm ([] : List ByteArray)
    rw [← Ny582.out] at H
    (try rw [Option.bind_some] at H)
    have H' := ak H; clear H
    go_wp2_with (first | ((with_reducible refine gate_dst (N := 22) rfl ?_); (try (refine gate_guard (by rfl) ?_; dsimp only)); refine Kd.R_lit Kd.string _ 9 ?hg (N := 22) ?hd (xs := ([] : List ByteArray)) (inner := []) (ok := fun _ => True) (okp := fun _ => True) ?hr ?hp (fun _ hk => hk) trivial (Below.refl _ _) (Nat.le_refl _) (by simp) ?_; (case hd => rfl); (case hg => rfl); (case hr => first | (go_simp; done) | (go_simp; rfl)); (case hp => exact (Reps.none _ _)); intro v583 w14 ho15 hb hg_ hnew_; clear hg_ hnew_; (first | rw [← Ny582.out] at ho15 | (simp only [Int.reduceToNat] at ho15; rw [← Ny582.out] at ho15)); have HO584 := ak (Kd.R_lower (Kd.R_newB ho15 (g := gb579) (o := .cells #[.string a1] 9 (0, 0)) (ub BK579.out)) (below_size bb)); replace BK579 := kb BK579 hb; replace HB := ak (below_step bb hb); clear hb ho15))
    go_loopg [6, 25] kj2 (fun kq v6 v25 w' => ∃ (x6_2 : List ByteArray) (x25_2 : Int), v25 = .int .i64 x25_2 ∧ Aside0 (impl_JoinParts.l0 kq x6_2 l0 (l0.length : Int) x25_2 a1 = some (r1, r2)) ∧ Aside0 (kq ≤ kj2) ∧ Aside0 (Kd.R Kd.string 9 w' w.heap.size (fun k_ => k_ ≠ gb579) v6 x6_2) ∧ Aside0 (w'.heap[gb579]? = some (.cells #[.string a1] 9 (0, 0))) ∧ Aside0 (Below w.heap.size w w'))
    case atStart => exact ⟨(y582), (0), rs, H', ⟨Nat.le_refl _⟩, ⟨ur (Kd.R_mono HO584.out (fun _ hk => hk.2))⟩, ⟨ub BK579.out⟩, ⟨bb⟩⟩
    case round =>
     clear H'
     try clear c1
     try clear p2
     try clear c6
     try clear c7
     try clear c7b0
     try clear c7b1
     try clear c7b2
     try clear c9
     try clear c10
     try clear c13
     try clear hcz10_0
     try clear hcz12_0
     try clear hcz8_0
     try clear hfz10_0
     try clear hfz12_0
     try clear hfz8_0
     try clear p2
     obtain ⟨x6_2, x25_2, rfl, HA, HK2, HO_6, BK579, HB⟩ := hrel
     cases gk with
     | zero => exact absurd HA.out (by simp [impl_JoinParts.l0])
     | succ k2 =>
      have H := HA.out
      clear HA
      simp only [impl_JoinParts.l0] at H
      replace H := sd H
      rcases H with ⟨c16b0, H⟩ | ⟨c16b0, H⟩
      ·
       replace H := nde H; obtain ⟨c17b0, H⟩ := H; replace H := nde H; obtain ⟨c18b0, H⟩ := H; replace H := nn H; obtain ⟨c19, H⟩ := H
       have c19b0 := eq_true c19
       have c19b1 := decide_eq_true c19
       try have c19b2 : (9223372036854775807 < 2 + a1.size) = False := eq_false (Nat.not_lt.2 c19)
       replace H := nl H; obtain ⟨LMc20, H⟩ := H
       obtain ⟨y586, Ny586⟩ := nm (x6_2 ++ [(⟨#[45, 45]⟩ : ByteArray) ++ a1])
       rw [← Ny586.out] at H
       (try rw [Option.bind_some] at H)
       replace H := nl H; obtain ⟨LMc21, H⟩ := H
       obtain ⟨y589, Ny589⟩ := nm (y586 ++ (rd_L3 l0 x25_2))
       rw [← Ny589.out] at H
       (try rw [Option.bind_some] at H)
       have H' := ak H; clear H
       have p585 := zi x25_2
       have q585 := zj x25_2 l0.length
       obtain ⟨ad585, A585_0, c585_0, e585, hx585_0, hl585_0, hi585_0⟩ := at_L3 HR0.out x25_2 p585 q585
       cases e585
       replace hx585_0 := cl HB.out hx585_0
       have HR585_0 := ak hi585_0
       have HC585_0 := ak hl585_0
       clear hi585_0 hl585_0
       replace p585 := eq_true p585
       replace q585 := eq_true q585
       have hcz22_0 : wr.cell? ⟨gb579, 0, none⟩ = some (.string a1) := (blk_cell BK579.out 0).trans rfl
       have hfz22_0 := blk_frozen BK579.out 0
       go_wp2_with (first | ((with_reducible refine gate_builtin (b := .append) (xs := #[.tmp 29, .tmp 32]) rfl ?_); (try (refine gate_guard (by rfl) ?_; dsimp only)); at_builtin; refine Kd.R_append Kd.string (w0 := w) w.heap.size rfl (.tmp 29) (.tmp 32) 23 9 (.string ⟨#[]⟩) 16 rfl Tryz.underlying23 info9 rfl (by decide) (by omega) u6 x6_2 ((⟨#[45, 45]⟩ : ByteArray) ++ a1) [.string ((⟨#[45, 45]⟩ : ByteArray) ++ a1)] (fun k_ => k_ ≠ gb579) (fun _ => False) rfl rfl ?aP (fun _ hk => hk.elim) ?aF ?aO ?aB ?aS ?aL ?_; (case aP => exact rfl); (case aB => exact bb); (case aF => exact (fun k_ hk => Kd.freshB (g := gb579) (o := .cells #[.string a1] 9 (0, 0)) (ub BK579.out) k_ hk)); (case aO => exact (ur HO_6.out)); (case aS => exact (below_size bb)); (case aL => have := LMc20.out; omega); intro v587 w23 ho hb hg hat; rw [← Ny586.out] at ho; have n0_ := ak (blk_grown (g := gb579) (o := .cells #[.string a1] 9 (0, 0)) (ub BK579.out) hg (Kd.R_away HO_6.out (fun _ hk => hk))); have n1_ := ak (hb); have n2_ := ak (ho); clear BK579; clear HB; clear HO_6; have BK579 := n0_; have HB := n1_; have HO588 := n2_; clear n0_ n1_ n2_; clear ho hb hg hat) | ((with_reducible refine gate_builtin (b := .append) (xs := #[.tmp 34, .tmp 35]) rfl ?_); (try (refine gate_guard (by rfl) ?_; dsimp only)); at_builtin; refine Kd.R_append_rows Kd.string (w0 := w) w.heap.size rfl (.tmp 34) (.tmp 35) 23 9 (.string ⟨#[]⟩) 16 rfl Tryz.underlying23 info9 rfl (by decide) (by omega) v587 y586 (rd_L3 l0 x25_2) _ _ _ (fun k_ => k_ ≠ gb579) (fun _ => False) rfl rfl ?aO ?aR (fun _ _ h => h) (fun _ h => h.elim) ?aF ?aB ?aS ?aL ?_; (case aR => repeat (first | exact (Kd.C_below HR585_0.out HB.out) | (with_reducible refine Kd.C_alloc ?_ _) | (with_reducible refine Kd.C_drewN ?_ _) | (with_reducible refine Kd.C_drew ?_))); (case aB => exact bb); (case aF => exact (fun k_ hk => Kd.freshB (g := gb579) (o := .cells #[.string a1] 9 (0, 0)) (ub BK579.out) k_ hk)); (case aO => exact (ur HO588.out)); (case aS => exact (below_size bb)); (case aL => have := LMc21.out; omega); intro v590 w24 ho hb hg hat; rw [← Ny589.out] at ho; have n0_ := ak (blk_grown (g := gb579) (o := .cells #[.string a1] 9 (0, 0)) (ub BK579.out) hg (Kd.R_away HO588.out (fun _ hk => hk))); have n1_ := ak (hb); have n2_ := ak (ho); clear BK579; clear HB; clear HO588; have BK579 := n0_; have HB := n1_; have HO591 := n2_; clear n0_ n1_ n2_; clear ho hb hg hat))
       go_roundg k2
       case measure => have := HJ2.out; have := HK2.out; omega
       case rel => exact ⟨(y589), (wrap64 (x25_2 + 1)), rs, H', ⟨by have := HJ2.out; have := HK2.out; omega⟩, ⟨ur HO591.out⟩, ⟨ub BK579.out⟩, ⟨bb⟩⟩
      ·
       replace H := nn H; obtain ⟨c25, H⟩ := H
       have c25b0 := eq_true c25
       have c25b1 := decide_eq_true c25
       try have c25b2 : (9223372036854775807 < 2 + a1.size) = False := eq_false (Nat.not_lt.2 c25)
       replace H := nn H; obtain ⟨c26, H⟩ := H
       have c26b0 := eq_true c26
       have c26b1 := decide_eq_true c26
       try have c26b3 : (9223372036854775807 < 2 + a1.size + 2) = False := by have h_ := (eq_false (Nat.not_lt.2 c26) : (9223372036854775807 < ((⟨#[45, 45]⟩ : ByteArray) ++ a1).size + 2) = False); simp only [ByteArray.size_append] at h_; exact h_
       try have c26b2 : (9223372036854775807 < ((⟨#[45, 45]⟩ : ByteArray) ++ a1).size + 2) = False := eq_false (Nat.not_lt.2 c26)
       replace H := nl H; obtain ⟨LMc27, H⟩ := H
       obtain ⟨y592, Ny592⟩ := nm (x6_2 ++ [((⟨#[45, 45]⟩ : ByteArray) ++ a1) ++ (⟨#[45, 45]⟩ : ByteArray)])
       rw [← Ny592.out] at H
       (try rw [Option.bind_some] at H)
       simp only [Option.some.injEq, Prod.mk.injEq] at H
       obtain ⟨rfl, rfl⟩ := H
       have hcz28_0 : wr.cell? ⟨gb579, 0, none⟩ = some (.string a1) := (blk_cell BK579.out 0).trans rfl
       have hfz28_0 := blk_frozen BK579.out 0
       go_wp2_with (first | ((with_reducible refine gate_builtin (b := .append) (xs := #[.tmp 38, .tmp 42]) rfl ?_); (try (refine gate_guard (by rfl) ?_; dsimp only)); at_builtin; refine Kd.R_append Kd.string (w0 := w) w.heap.size rfl (.tmp 38) (.tmp 42) 23 9 (.string ⟨#[]⟩) 16 rfl Tryz.underlying23 info9 rfl (by decide) (by omega) u6 x6_2 (((⟨#[45, 45]⟩ : ByteArray) ++ a1) ++ (⟨#[45, 45]⟩ : ByteArray)) [.string (((⟨#[45, 45]⟩ : ByteArray) ++ a1) ++ (⟨#[45, 45]⟩ : ByteArray))] (fun k_ => k_ ≠ gb579) (fun _ => False) rfl rfl ?aP (fun _ hk => hk.elim) ?aF ?aO ?aB ?aS ?aL ?_; (case aP => exact rfl); (case aB => exact bb); (case aF => exact (fun k_ hk => Kd.freshB (g := gb579) (o := .cells #[.string a1] 9 (0, 0)) (ub BK579.out) k_ hk)); (case aO => exact (ur HO_6.out)); (case aS => exact (below_size bb)); (case aL => have := LMc27.out; omega); intro v593 w29 ho hb hg hat; rw [← Ny592.out] at ho; have n0_ := ak (blk_grown (g := gb579) (o := .cells #[.string a1] 9 (0, 0)) (ub BK579.out) hg (Kd.R_away HO_6.out (fun _ hk => hk))); have n1_ := ak (hb); have n2_ := ak (ho); clear BK579; clear HB; clear HO_6; have BK579 := n0_; have HB := n1_; have HO594 := n2_; clear n0_ n1_ n2_; clear ho hb hg hat))
       go_ret2
       exact ⟨_, er, ur (Kd.R_mono HO594.out (fun _ hk => trivial)), bb⟩
end Go.Proofs.YtncdadcmghglkaaGreatDoor.PFnExactCountParts
