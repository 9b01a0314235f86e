/- Printed walks; conditions: those in each statement. -/
import Derived.Test.YtncdadcmghglkaaGreatDoorVFnPartSameQt
import Derived.Test.YtncdadcmghglkaaGreatDoorVFnPartSameYt
import Derived.Test.YtncdadcmghglkaaGreatDoorPFnPartSamex0
import Derived.Test.YtncdadcmghglkaaGreatDoorPFnPartSamex9
import Derived.Test.YtncdadcmghglkaaGreatDoorPFnPartSamex10
-- short
-- dense
-- sq
-- sq2
namespace Go.Proofs.YtncdadcmghglkaaGreatDoor.PFnPartSame
open Go.RowKit Go.Proofs.YtncdadcmghglkaaGreatDoor.X Go.Proofs.YtncdadcmghglkaaGreatDoorW.PrintWords Go.Proofs.YtncdadcmghglkaaGreatDoorW.PrintLast Go.Proofs.YtncdadcmghglkaaGreatDoorW.PrintMore
attribute [local go_sem] max2_int min2_int max_two min_two max_three min_three max_four min_four   -- for this text's walks alone
set_option linter.unusedVariables false
set_option maxHeartbeats 8000000
set_option maxRecDepth 100000
set_option linter.unusedSimpArgs false
mutual
def impl_JoinParts.j0 : Nat → List (List ByteArray) → Bool → ByteArray → Option (List ByteArray × Bool)
 | 0, _, _, _ => none
 | k + 1, x0, x21, x313000 => if x21 = true then (some (([] : List ByteArray), false)) else (impl_JoinParts.l0 k (([] : List ByteArray)) x0 (x0.length : Int) 0 x313000)
def impl_JoinParts.l0 : Nat → List ByteArray → List (List ByteArray) → Int → Int → ByteArray → Option (List ByteArray × Bool)
 | 0, _, _, _, _, _ => none
 | k + 1, x6, x23, x24, x25, x313000 => if x25 < x24 then (if 0 ≤ x25 then (if x25 < (x23.length : Int) then (if 2 + x313000.size ≤ 9223372036854775807 then (if x6.length < 8796093022208 then ((some (x6 ++ [(⟨#[45, 45]⟩ : ByteArray) ++ x313000] : List ByteArray)).bind fun y319 => (if y319.length + (rd_L3 x23 x25).length < 8796093022208 then (impl_JoinParts.l0 k (y319 ++ (rd_L3 x23 x25)) x23 x24 (wrap64 (x25 + 1)) x313000) else (none))) else (none)) else (none)) else (none)) else (none)) else (if 2 + x313000.size ≤ 9223372036854775807 then (if ((⟨#[45, 45]⟩ : ByteArray) ++ x313000).size + 2 ≤ 9223372036854775807 then (if x6.length < 8796093022208 then (some ((x6 ++ [((⟨#[45, 45]⟩ : ByteArray) ++ x313000) ++ (⟨#[45, 45]⟩ : ByteArray)]), true)) else (none)) else (none)) else (none))
end
def impl_JoinParts.f (k : Nat) (l0 : List (List ByteArray)) (a1 : ByteArray) : Option (List ByteArray × Bool) := (impl_isBoundary.f k a1).bind fun t313 => (if t313 = true then (if (l0.length : Int) = 0 then (impl_JoinParts.j0 k l0 true a1) else ((slices_ContainsFunc_string_string_JoinParts_1.f k l0 a1).bind fun t314 => (impl_JoinParts.j0 k l0 t314 a1))) else (impl_JoinParts.j0 k l0 true a1))
theorem impl_JoinParts.calls {k c0 : Nat} {A0 : Option Addr} {l0 : List (List ByteArray)} {a1 : ByteArray} {r1 : List ByteArray} {r2 : Bool} {w : World} (hr0 : Kd.C (Kd.slice 9 Kd.string) w A0 l0.length l0) (hc0 : l0.length ≤ c0) (h : impl_JoinParts.f k l0 a1 = some (r1, r2)) :
  Calls Tryz.prog 106 #[.slice A0 l0.length c0, .string a1] w fun e w' => ∃ v0_ : Value, e = .returned (.tuple #[v0_, .bool r2]) ∧ Kd.R Kd.string 9 w' w.heap.size (fun _ => True) v0_ r1 ∧ Below w.heap.size w w' := by
 have HR0 := ak hr0
 have HC0 := ak hc0
 clear hr0 hc0
 have HB := ak (Below.refl w.heap.size w)
 have H : ((impl_isBoundary.f k a1).bind fun t313 => (if t313 = true then (if (l0.length : Int) = 0 then (impl_JoinParts.j0 k l0 true a1) else ((slices_ContainsFunc_string_string_JoinParts_1.f k l0 a1).bind fun t314 => (impl_JoinParts.j0 k l0 t314 a1))) else (impl_JoinParts.j0 k l0 true a1))) = some (r1, r2) := h
 clear h
 have HC3 := ak H
 clear H
 go_enter Tryz.func106, Tryz.ntmps106
 go_upto_region 1 with (refine gG 3 ?_; refine bX HB 3 #[.string a1] 9 ?_; intro gb312 w4 BK312 GW312 hb; replace HB := bs HB hb; clear hb)
 (try simp only [Act.put, l_a, l_b, l_c])
 go_cut [21] (fun v21 wc => ∃ (kq : Nat) (x21_2 : Bool), v21 = .bool x21_2 ∧ Aside0 (impl_JoinParts.j0 kq l0 x21_2 a1 = some (r1, r2)) ∧ Aside0 (kq ≤ k) ∧ Aside0 (wc.heap[gb312]? = some (.cells #[.string a1] 9 (0, 0))) ∧ Aside0 (Below w.heap.size w wc))
 case first =>
  have H := HC3.out
  clear HC3
  replace H := bd H; obtain ⟨t313, A5, H⟩ := H; replace H := sb H
  rcases H with ⟨rfl, H⟩ | ⟨rfl, H⟩
  ·
   replace H := sp H
   rcases H with ⟨c7, H⟩ | ⟨c7, H⟩
   ·
    have c7b0 := beq_iff_eq.mpr c7
    have c7b1 := bne_eq_false_iff_eq.mpr c7
    clear c7
    (first | rw [c7b0] | (simp only [i64_w, i32_w]; rw [c7b0]) | skip)
    have H' := ak H; clear H
    have hcz8_0 : w4.cell? ⟨gb312, 0, none⟩ = some (.string a1) := (blk_cell BK312.out 0).trans rfl
    have hfz8_0 := blk_frozen BK312.out 0
    go_wp2_with (refine gA Tryz.func96 (impl_isBoundary.calls A5.out) ?_; intro nd)
    go_meet
    case rel => exact ⟨_, _, rs, H', ⟨le_⟩, ⟨ub BK312.out⟩, ⟨bb⟩⟩
   ·
    have c7b0 := beq_eq_false_iff_ne.mpr c7
    have c7b1 := bne_iff_ne.mpr c7
    have c7b2 : ¬ (l0 = []) := fun h_ => c7 (by rw [h_]; rfl)
    (first | rw [c7b0] | (simp only [i64_w, i32_w]; rw [c7b0]) | skip)
    replace H := bd H; obtain ⟨t314, A9, H⟩ := H
    have H' := ak H; clear H
    have hcz10_0 : w4.cell? ⟨gb312, 0, none⟩ = some (.string a1) := (blk_cell BK312.out 0).trans rfl
    have hfz10_0 := blk_frozen BK312.out 0
    go_wp2_with (first | (refine gA Tryz.func96 (impl_isBoundary.calls A5.out) ?_; intro nd) | (go_at_call 150; refine mB (slices_ContainsFunc_string_string_JoinParts_1.calls (cu (Kd.C_below HR0.out bb)) HC0.out (ub BK312.out) A9.out) ?_; intro w11 hb; replace BK312 := kb BK312 hb; replace HB := bz HB hb; clear hb))
    go_meet
    case rel => exact ⟨_, _, rs, H', ⟨le_⟩, ⟨ub BK312.out⟩, ⟨bb⟩⟩
  ·
   have H' := ak H; clear H
   have hcz12_0 : w4.cell? ⟨gb312, 0, none⟩ = some (.string a1) := (blk_cell BK312.out 0).trans rfl
   have hfz12_0 := blk_frozen BK312.out 0
   go_wp2_with (refine gA Tryz.func96 (impl_isBoundary.calls A5.out) ?_; intro nd)
   go_meet
   case rel => exact ⟨_, _, rs, H', ⟨le_⟩, ⟨ub BK312.out⟩, ⟨bb⟩⟩
 case rest =>
  clear HC3
  obtain ⟨kq, x21_2, rfl, HA, HJ2, BK312, HB⟩ := hcut
  cases kq with
  | zero => exact zz HA.out
  | succ kj2 =>
   obtain ⟨H⟩ := HA
   simp only [impl_JoinParts.j0] at H
   replace H := sb H
   rcases H with ⟨rfl, H⟩ | ⟨rfl, H⟩
   ·
    obtain ⟨rfl, rfl⟩ := s2 H
    go_wp2
    go_ret2
    exact ⟨_, er, nx, bb⟩
   ·
    obtain ⟨y315, Ny315⟩ := nm ([] : List ByteArray)
    rw [← Ny315.out] at H
    have H' := ak H; clear H
    go_wp2_with (refine gG 22 ?_; refine lRN 22 Kd.string 9 Ny315 ?_; intro v316 w14 ho15 hb; have HO317 := ak (Kd.R_lower (Kd.R_newB ho15 (g := gb312) (o := .cells #[.string a1] 9 (0, 0)) (ub BK312.out)) (below_size bb)); replace BK312 := kb BK312 hb; replace HB := bz HB hb; clear hb ho15)
    go_loopg [6, 25] kj2 (fun kq v6 v25 w' => ∃ (x6_2 : List ByteArray) (x25_2 : Int), v25 = .int .i64 x25_2 ∧ Aside0 (impl_JoinParts.l0 kq x6_2 l0 (l0.length : Int) x25_2 a1 = some (r1, r2)) ∧ Aside0 (kq ≤ kj2) ∧ Aside0 (Kd.R Kd.string 9 w' w.heap.size (fun k_ => k_ ≠ gb312) v6 x6_2) ∧ Aside0 (w'.heap[gb312]? = some (.cells #[.string a1] 9 (0, 0))) ∧ Aside0 (Below w.heap.size w w'))
    case atStart => exact ⟨_, _, rs, H', ⟨Nat.le_refl _⟩, ⟨ur (Kd.R_mono HO317.out (fun _ hk => hk.2))⟩, ⟨ub BK312.out⟩, ⟨bb⟩⟩
    case round =>
     clear H'
     obtain ⟨x6_2, x25_2, rfl, HA, HK2, HO_6, BK312, HB⟩ := hrel
     cases gk with
     | zero => exact zz HA.out
     | succ k2 =>
      obtain ⟨H⟩ := HA
      simp only [impl_JoinParts.l0] at H
      replace H := sd H
      rcases H with ⟨c16b0, H⟩ | ⟨c16b0, H⟩
      ·
       replace H := nde H; obtain ⟨c17b0, H⟩ := H; replace H := nde H; obtain ⟨c18b0, H⟩ := H; replace H := nn H; obtain ⟨c19, H⟩ := H
       have c19b0 := eq_true c19
       have c19b1 := decide_eq_true c19
       try have c19b2 : (9223372036854775807 < 2 + a1.size) = False := eq_false (Nat.not_lt.2 c19)
       replace H := nl H; obtain ⟨LMc20, H⟩ := H
       replace H := ny H
       obtain ⟨y319, Ny319, H⟩ := H
       replace H := nl H; obtain ⟨LMc21, H⟩ := H
       obtain ⟨y322, Ny322⟩ := nm (y319 ++ (rd_L3 l0 x25_2))
       rw [← Ny322.out] at H
       have H' := ak H; clear H
       have p318 := zi x25_2
       have q318 := zj x25_2 l0.length
       obtain ⟨ad318, A318_0, c318_0, e318, hx318_0, hl318_0, hi318_0⟩ := at_L3 HR0.out x25_2 p318 q318
       cases e318
       replace hx318_0 := cl HB.out hx318_0
       have HR318_0 := ak hi318_0
       have HC318_0 := ak hl318_0
       clear hi318_0 hl318_0
       replace p318 := eq_true p318
       replace q318 := eq_true q318
       have hcz22_0 : wr.cell? ⟨gb312, 0, none⟩ = some (.string a1) := (blk_cell BK312.out 0).trans rfl
       have hfz22_0 := blk_frozen BK312.out 0
       go_wp2_with (first | ((with_reducible refine gate_builtin (b := .append) (xs := #[.tmp 29, .tmp 32]) rfl ?_); (try (refine gate_guard (by rfl) ?_; dsimp only)); at_builtin; refine Kd.R_append Kd.string (w0 := w) w.heap.size rfl (.tmp 29) (.tmp 32) 23 9 (.string ⟨#[]⟩) 16 rfl Tryz.underlying23 info9 rfl (by decide) (by omega) u6 x6_2 ((⟨#[45, 45]⟩ : ByteArray) ++ a1) [.string ((⟨#[45, 45]⟩ : ByteArray) ++ a1)] (fun k_ => k_ ≠ gb312) (fun _ => False) rfl rfl ?aP (fun _ hk => hk.elim) ?aF ?aO ?aB ?aS ?aL ?_; (case aP => exact rfl); (case aB => exact bb); (case aF => exact (fun k_ hk => Kd.freshB (g := gb312) (o := .cells #[.string a1] 9 (0, 0)) (ub BK312.out) k_ hk)); (case aO => exact (ur HO_6.out)); (case aS => exact (below_size bb)); (case aL => have := LMc20.out; omega); intro v320 w23 ho hb hg hat; rw [← Ny319.out] at ho; have HO321 := ak (ho); replace BK312 := ak (blk_grown (g := gb312) (o := .cells #[.string a1] 9 (0, 0)) (ub BK312.out) hg (Kd.R_away HO_6.out (fun _ hk => hk))); replace HB := ak (hb); clear ho hb hg hat HO_6) | ((with_reducible refine gate_builtin (b := .append) (xs := #[.tmp 34, .tmp 35]) rfl ?_); (try (refine gate_guard (by rfl) ?_; dsimp only)); at_builtin; refine Kd.R_append_rows Kd.string (w0 := w) w.heap.size rfl (.tmp 34) (.tmp 35) 23 9 (.string ⟨#[]⟩) 16 rfl Tryz.underlying23 info9 rfl (by decide) (by omega) v320 y319 (rd_L3 l0 x25_2) _ _ _ (fun k_ => k_ ≠ gb312) (fun _ => False) rfl rfl ?aO ?aR (fun _ _ h => h) (fun _ h => h.elim) ?aF ?aB ?aS ?aL ?_; (case aR => repeat (first | exact (Kd.C_below HR318_0.out HB.out) | (with_reducible refine Kd.C_alloc ?_ _) | (with_reducible refine Kd.C_drewN ?_ _) | (with_reducible refine Kd.C_drew ?_))); (case aB => exact bb); (case aF => exact (fun k_ hk => Kd.freshB (g := gb312) (o := .cells #[.string a1] 9 (0, 0)) (ub BK312.out) k_ hk)); (case aO => exact (ur HO321.out)); (case aS => exact (below_size bb)); (case aL => have := LMc21.out; omega); intro v323 w24 ho hb hg hat; rw [← Ny322.out] at ho; have HO324 := ak (ho); replace BK312 := ak (blk_grown (g := gb312) (o := .cells #[.string a1] 9 (0, 0)) (ub BK312.out) hg (Kd.R_away HO321.out (fun _ hk => hk))); replace HB := ak (hb); clear ho hb hg hat HO321))
       go_roundg k2
       case measure => exact kl
       case rel => exact ⟨_, _, rs, H', ⟨kl⟩, ⟨ur HO324.out⟩, ⟨ub BK312.out⟩, ⟨bb⟩⟩
      ·
       replace H := nn H; obtain ⟨c25, H⟩ := H
       have c25b0 := eq_true c25
       have c25b1 := decide_eq_true c25
       try have c25b2 : (9223372036854775807 < 2 + a1.size) = False := eq_false (Nat.not_lt.2 c25)
       replace H := nn H; obtain ⟨c26, H⟩ := H
       have c26b0 := eq_true c26
       have c26b1 := decide_eq_true c26
       try have c26b3 : (9223372036854775807 < 2 + a1.size + 2) = False := by have h_ := (eq_false (Nat.not_lt.2 c26) : (9223372036854775807 < ((⟨#[45, 45]⟩ : ByteArray) ++ a1).size + 2) = False); simp only [ByteArray.size_append] at h_; exact h_
       try have c26b2 : (9223372036854775807 < ((⟨#[45, 45]⟩ : ByteArray) ++ a1).size + 2) = False := eq_false (Nat.not_lt.2 c26)
       replace H := nl H; obtain ⟨LMc27, H⟩ := H
       obtain ⟨y325, Ny325⟩ := nm (x6_2 ++ [((⟨#[45, 45]⟩ : ByteArray) ++ a1) ++ (⟨#[45, 45]⟩ : ByteArray)])
       rw [← Ny325.out] at H
       obtain ⟨rfl, rfl⟩ := s2 H
       have hcz28_0 : wr.cell? ⟨gb312, 0, none⟩ = some (.string a1) := (blk_cell BK312.out 0).trans rfl
       have hfz28_0 := blk_frozen BK312.out 0
       go_wp2_with ((with_reducible refine gate_builtin (b := .append) (xs := #[.tmp 38, .tmp 42]) rfl ?_); (try (refine gate_guard (by rfl) ?_; dsimp only)); at_builtin; refine Kd.R_append Kd.string (w0 := w) w.heap.size rfl (.tmp 38) (.tmp 42) 23 9 (.string ⟨#[]⟩) 16 rfl Tryz.underlying23 info9 rfl (by decide) (by omega) u6 x6_2 (((⟨#[45, 45]⟩ : ByteArray) ++ a1) ++ (⟨#[45, 45]⟩ : ByteArray)) [.string (((⟨#[45, 45]⟩ : ByteArray) ++ a1) ++ (⟨#[45, 45]⟩ : ByteArray))] (fun k_ => k_ ≠ gb312) (fun _ => False) rfl rfl ?aP (fun _ hk => hk.elim) ?aF ?aO ?aB ?aS ?aL ?_; (case aP => exact rfl); (case aB => exact bb); (case aF => exact (fun k_ hk => Kd.freshB (g := gb312) (o := .cells #[.string a1] 9 (0, 0)) (ub BK312.out) k_ hk)); (case aO => exact (ur HO_6.out)); (case aS => exact (below_size bb)); (case aL => have := LMc27.out; omega); intro v326 w29 ho hb hg hat; rw [← Ny325.out] at ho; have HO327 := ak (ho); replace BK312 := ak (blk_grown (g := gb312) (o := .cells #[.string a1] 9 (0, 0)) (ub BK312.out) hg (Kd.R_away HO_6.out (fun _ hk => hk))); replace HB := ak (hb); clear ho hb hg hat HO_6)
       go_ret2
       exact ⟨_, er, ur (Kd.R_mono HO327.out (fun _ hk => trivial)), bb⟩
end Go.Proofs.YtncdadcmghglkaaGreatDoor.PFnPartSame
