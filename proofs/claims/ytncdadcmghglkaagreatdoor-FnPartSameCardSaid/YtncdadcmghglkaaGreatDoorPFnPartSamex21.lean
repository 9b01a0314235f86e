/- Printed walks; conditions: those in each statement. -/
import Derived.Test.YtncdadcmghglkaaGreatDoorVFnPartSameQt
import Derived.Test.YtncdadcmghglkaaGreatDoorVFnPartSameYt
import Derived.Test.YtncdadcmghglkaaGreatDoorPFnPartSamex0
-- short
-- dense
-- sq
-- sq2
namespace Go.Proofs.YtncdadcmghglkaaGreatDoor.PFnPartSame
open Go.RowKit Go.Proofs.YtncdadcmghglkaaGreatDoor.X Go.Proofs.YtncdadcmghglkaaGreatDoorW.PrintWords Go.Proofs.YtncdadcmghglkaaGreatDoorW.PrintLast Go.Proofs.YtncdadcmghglkaaGreatDoorW.PrintMore
attribute [local go_sem] max2_int min2_int max_two min_two max_three min_three max_four min_four   -- for this text's walks alone
set_option linter.unusedVariables false
set_option maxHeartbeats 8000000
set_option maxRecDepth 100000
set_option linter.unusedSimpArgs false
mutual
def spec_l8Copy.l0 : Nat → Int → List (S69) → List ByteArray → List (S28) → List (S69) → List ByteArray → List (S28) → Option ((List (S69)) × List ByteArray × (List (S28)))
 | 0, _, _, _, _, _, _, _ => none
 | k + 1, x4, x673000, x673001, x673002, x687000, x687001, x687002 => if x4 < (x673002.length : Int) then (if 0 ≤ x4 then ((spec_l8Copy.f k ((rd_T28 x673002 x4).f0) ((rd_T28 x673002 x4).f1) ((rd_T28 x673002 x4).f2)).bind fun bt688 => (if x687002.length < 1954687338268 then (spec_l8Copy.l0 k (wrap64 (x4 + 1)) x673000 x673001 x673002 x687000 x687001 (x687002 ++ [(⟨bt688.1, bt688.2.1, bt688.2.2⟩ : S28)])) else (none))) else (none)) else (some (x687000, x687001, x687002))
def spec_l8Copy.f : Nat → List (S69) → List ByteArray → List (S28) → Option ((List (S69)) × List ByteArray × (List (S28)))
 | 0, _, _, _ => none
 | k + 1, l0_0, l0_1, l0_2 => (some (([] : List (S69)) : List (S69))).bind fun y674 => (if y674.length + l0_0.length < 4398046511104 then ((some (([] : List ByteArray) : List ByteArray)).bind fun y680 => (if y680.length + l0_1.length < 8796093022208 then (spec_l8Copy.l0 k 0 l0_0 l0_1 l0_2 (y674 ++ l0_0) (y680 ++ l0_1) ([] : List (S28))) else (none))) else (none))
end
def spec_l8Copy.T1 : Bool × List (List Nat × List Nat) := (true, [([], []), ([], []), ([1], [1]), ([0, 2], [0, 2]), ([], []), ([], []), ([5], [5]), ([4, 6, 3], [4, 6]), ([3, 7], [3, 7]), ([], []), ([9, 8, 7, 0, 1, 2, 3, 4, 5, 6, 7, 8, 9], [8, 9])])
def spec_l8Copy.B1 : List Nat := [0, 0, 2, 7, 0, 0, 32, 127, 255, 0, 1023]
theorem spec_l8Copy.tab1 : rtab .any (opsOf Tryz.f110 1) = spec_l8Copy.T1 := by kernel_rfl
theorem spec_l8Copy.bits1 : waitsOk spec_l8Copy.T1.2 spec_l8Copy.B1 = true := by kernel_rfl
def spec_l8Copy.T5 : Bool × List (List Nat × List Nat) := (true, [([], []), ([0], [0]), ([], []), ([2], [2]), ([], []), ([3, 4], [3, 4]), ([5], [5]), ([6], [6]), ([7], [7]), ([1, 8, 7], [1, 8]), ([0, 1, 2, 3, 4, 5, 6, 7, 8, 9], []), ([10, 9, 9, 0, 1, 2, 3, 4, 5, 6, 7, 8, 9], [9, 10])])
def spec_l8Copy.B5 : List Nat := [0, 1, 0, 4, 0, 28, 60, 124, 252, 511, 1023, 2047]
theorem spec_l8Copy.tab5 : rtab .any (opsOf Tryz.f110 5) = spec_l8Copy.T5 := by kernel_rfl
theorem spec_l8Copy.bits5 : waitsOk spec_l8Copy.T5.2 spec_l8Copy.B5 = true := by kernel_rfl
theorem spec_l8Copy.calls (k : Nat) : ∀ (A0_0 : Option Addr) (c0_0 : Nat) (l0_0 : List (S69)) (A0_1 : Option Addr) (c0_1 : Nat) (l0_1 : List ByteArray) (A0_2 : Option Addr) (c0_2 : Nat) (l0_2 : List (S28)) (r1 : List (S69)) (r2 : List ByteArray) (r3 : List (S28)) (w : World) (hr0_0 : Kd.C k69 w A0_0 l0_0.length l0_0) (hc0_0 : l0_0.length ≤ c0_0) (hr0_1 : Kd.C Kd.string w A0_1 l0_1.length l0_1) (hc0_1 : l0_1.length ≤ c0_1) (hr0_2 : Kd.C k28 w A0_2 l0_2.length l0_2) (hc0_2 : l0_2.length ≤ c0_2) (h : spec_l8Copy.f k l0_0 l0_1 l0_2 = some (r1, r2, r3)),
  Calls Tryz.prog 110 #[.agg #[.slice A0_0 l0_0.length c0_0, .slice A0_1 l0_1.length c0_1, .slice A0_2 l0_2.length c0_2]] w fun e w' => ∃ v0_ v1_ v2_ : Value, e = .returned (.agg #[v0_, v1_, v2_]) ∧ Kd.R k69 69 w' w.heap.size (fun _ => True) v0_ r1 ∧ Kd.R Kd.string 9 w' w.heap.size (fun _ => True) v1_ r2 ∧ Kd.R k28 28 w' w.heap.size (fun k_ => some k_ ≠ (v0_ : Value).ownBlock ∧ some k_ ≠ (v1_ : Value).ownBlock) v2_ r3 ∧ Below w.heap.size w w' := by
 induction k using Nat.strongRecOn with
 | _ k ih =>
 intro A0_0 c0_0 l0_0 A0_1 c0_1 l0_1 A0_2 c0_2 l0_2 r1 r2 r3 w hr0_0 hc0_0 hr0_1 hc0_1 hr0_2 hc0_2 h
 cases k with
 | zero => exact absurd h (by simp [spec_l8Copy.f])
 | succ k =>
 simp only [spec_l8Copy.f] at h
 have hu28 := Tryz.underlying28
 have HR0_0 := ak hr0_0
 have HC0_0 := ak hc0_0
 clear hr0_0 hc0_0
 have HR0_1 := ak hr0_1
 have HC0_1 := ak hc0_1
 clear hr0_1 hc0_1
 have HR0_2 := ak hr0_2
 have HC0_2 := ak hc0_2
 clear hr0_2 hc0_2
 have HB := ak (Below.refl w.heap.size w)
 have H : ((some (([] : List (S69)) : List (S69))).bind fun y674 => (if y674.length + l0_0.length < 4398046511104 then ((some (([] : List ByteArray) : List ByteArray)).bind fun y680 => (if y680.length + l0_1.length < 8796093022208 then (spec_l8Copy.l0 k 0 l0_0 l0_1 l0_2 (y674 ++ l0_0) (y680 ++ l0_1) ([] : List (S28))) else (none))) else (none))) = some (r1, r2, r3) := h
 clear h
 replace H := ny H
 obtain ⟨y674, Ny674, H⟩ := H
 replace H := nl H; obtain ⟨LMc2, H⟩ := H
 obtain ⟨y677, Ny677⟩ := nm (y674 ++ l0_0)
 rw [← Ny677.out] at H
 replace H := ny H
 obtain ⟨y680, Ny680, H⟩ := H
 replace H := nl H; obtain ⟨LMc3, H⟩ := H
 obtain ⟨y683, Ny683⟩ := nm (y680 ++ l0_1)
 rw [← Ny683.out] at H
 have H' := ak H; clear H
 go_enter Tryz.func110, Tryz.ntmps110
 try go_wp2_with (first | (refine bX HB 1 #[.slice A0_0 l0_0.length c0_0, .slice A0_1 l0_1.length c0_1, .slice A0_2 l0_2.length c0_2] 28 ?_; intro gb672 w4 BK672 GW672 hb; replace HB := bs HB hb; clear hb) | (refine bY HB 2 #[.slice none 0 0, .slice none 0 0, .slice none 0 0] 28 ?_; intro gb673 w5 BK673 GW673 hg hb; have NB672_673 := nl_ BK672 hg; have NB673_672 := ng_ BK672 hg; replace BK672 := kb BK672 hb; replace HB := bz HB hb; clear hb hg))
 replace BK672 := ak (blk_drew BK672.out)
 replace BK673 := ak (blk_drew BK673.out)
 replace HB := ak (below_drew1 HB.out)
 refine start_ (n := 11) (S := fun w' => w'.cell? ⟨gb672, 0, none⟩ = some (.slice A0_0 l0_0.length c0_0) ∧ w'.cell? ⟨gb672, 1, none⟩ = some (.slice A0_1 l0_1.length c0_1) ∧ w'.cell? ⟨gb672, 2, none⟩ = some (.slice A0_2 l0_2.length c0_2)) (ds := []) #[false, false, false, false, false, false, false, false, false, false, false] (by kernel_rfl) rfl rfl ⟨(blk_cell BK672.out 0).trans rfl, (blk_cell BK672.out 1).trans rfl, (blk_cell BK672.out 2).trans rfl⟩ (fun hHeld => ?_); refine with_tabW spec_l8Copy.tab1 spec_l8Copy.bits1 (fun HT_ HW_ => ?_)
 generalize w5.drew = w6 at BK672 BK673 HB hHeld ⊢
 refine pl 1 ?_
 refine pl 5 ?_
 refine tk 2 ?_
 refine tk 6 ?_
 refine join_ (σ := Value × Value × Value × Value × Nat) 1 #[true, true, true, true, true, true, true, true, true, true, false] (fun s_ => [(5, s_.1), (8, s_.2.1), (9, s_.2.2.1), (12, s_.2.2.2.1), (3, .pointer (some ⟨s_.2.2.2.2, 0, none⟩)), (13, .agg #[s_.2.1, s_.2.2.2.1, .slice none 0 0])]) (fun s_ w' => (w'.cell? ⟨gb672, 0, none⟩ = some (.slice A0_0 l0_0.length c0_0) ∧ w'.cell? ⟨gb672, 1, none⟩ = some (.slice A0_1 l0_1.length c0_1) ∧ w'.cell? ⟨gb672, 2, none⟩ = some (.slice A0_2 l0_2.length c0_2)) ∧ (Kd.R k69 69 w' w.heap.size (fun _ => True) s_.2.1 y677) ∧ (Kd.R Kd.string 9 w' w.heap.size (fun _ => True) s_.2.2.2.1 y683) ∧ (w'.heap[gb672]? = some (.cells #[.slice A0_0 l0_0.length c0_0, .slice A0_1 l0_1.length c0_1, .slice A0_2 l0_2.length c0_2] 28 (0, 0))) ∧ (w'.heap[gb673]? = some (.cells #[.slice none 0 0, .slice none 0 0, .slice none 0 0] 28 (0, 0))) ∧ (w'.heap[s_.2.2.2.2]? = some (.cells #[.slice none 0 0, .slice none 0 0, .slice none 0 0] 28 (0, 0))) ∧ (w.heap.size ≤ s_.2.2.2.2) ∧ (w.heap.size ≤ s_.2.2.2.2) ∧ (gb672 ≠ s_.2.2.2.2) ∧ (s_.2.2.2.2 ≠ gb672) ∧ (gb673 ≠ s_.2.2.2.2) ∧ (s_.2.2.2.2 ≠ gb673) ∧ (Below w.heap.size w w')) ?_ ?_
 rotate_left
 ·
  intro hJ
  repeat' (first
   | (obtain ⟨Ao18, co18, eo18⟩ := Kd.R_slice HO679.out; obtain ⟨Ao17, co17, eo17⟩ := Kd.R_slice HO685.out; subst eo18; subst eo17; refine pl 8 ?_)
   | exact norm_ (by first | (simp only [putAll, Act.put, l_a, l_b, l_c]; done) | (simp only [putAll, Act.put, l_a, l_b, l_c]; rfl)) (hJ (v675, .slice Ao18 y677.length co18, v681, .slice Ao17 y683.length co17, gb686) _ ⟨hHeld, HO679.out, HO685.out, BK672.out, BK673.out, BK686.out, GW686.out, GW686.out, NB672_686.out, NB686_672.out, NB673_686.out, NB686_673.out, HB.out⟩)
   | ((first | refine th3 0 4 9 ?_ ?_ ?_ | refine th3 3 4 9 ?_ ?_ ?_ | refine tw2 0 4 ?_ ?_ | refine tw2 0 9 ?_ ?_ | refine tw2 3 4 ?_ ?_ | refine tw2 3 9 ?_ ?_ | refine tw2 4 9 ?_ ?_ | refine tw2 7 9 ?_ ?_ | refine o1 0 ?_ | refine o1 3 ?_ | refine o1 4 ?_ | refine o1 7 ?_ | refine o1 9 ?_) <;> (intro K hK; first
    | (refine gn 3 ?_; refine box_step ?hg (N := 3) ?hd (cs := #[.slice none 0 0, .slice none 0 0, .slice none 0 0]) (t := 28) ?hr ?_; (case hd => rfl); (case hg => rfl); (case hr => first | (go_simp; done) | (go_simp; rfl)); intro gb686 hg w_ hbox hb; have GW686 := ge_ HB hg; have NB672_686 := nl_ BK672 hg; have NB686_672 := ng_ BK672 hg; have NB673_686 := nl_ BK673 hg; have NB686_673 := ng_ BK673 hg; (try replace HO676 := rb HO676 hb); (try replace HO679 := rb HO679 hb); (try replace HO682 := rb HO682 hb); (try replace HO685 := rb HO685 hb); replace BK672 := kb BK672 hb; replace BK673 := kb BK673 hb; replace HB := bs HB hb; have BK686 := ak hbox; clear hbox hb hg; refine hK.out _ _ sx (fun hHeld => ?_); clear hK K; refine nrm ?_)
    | (refine gn 5 ?_; refine Kd.R_lit_step k69 _ 69 ?hg (N := 5) ?hd (xs := ([] : List S69)) (inner := []) (ok := fun _ => True) (okp := fun _ => True) ?hr ?hp (fun _ hk => hk) trivial (Below.refl _ _) (Nat.le_refl _) (by simp) ?_; (case hd => rfl); (case hg => rfl); (case hr => first | (go_simp; done) | (go_simp; rfl)); (case hp => exact (Reps.none _ _)); intro v675 w_ ho hb _ _; rw [← Ny674.out] at ho; replace ho := Kd.R_lower ho (below_size (ul HB.out)); (try replace HO676 := rb HO676 hb); (try replace HO679 := rb HO679 hb); (try replace HO682 := rb HO682 hb); (try replace HO685 := rb HO685 hb); (try replace BK686 := kb BK686 hb); replace BK672 := kb BK672 hb; replace BK673 := kb BK673 hb; replace HB := bs HB hb; have HO676 := ak ho; clear ho hb; refine hK.out _ _ sx (fun hHeld => ?_); clear hK K; refine nrm ?_)
    | (refine gn 9 ?_; refine Kd.R_lit_step Kd.string _ 9 ?hg (N := 9) ?hd (xs := ([] : List ByteArray)) (inner := []) (ok := fun _ => True) (okp := fun _ => True) ?hr ?hp (fun _ hk => hk) trivial (Below.refl _ _) (Nat.le_refl _) (by simp) ?_; (case hd => rfl); (case hg => rfl); (case hr => first | (go_simp; done) | (go_simp; rfl)); (case hp => exact (Reps.none _ _)); intro v681 w_ ho hb _ _; rw [← Ny680.out] at ho; replace ho := Kd.R_lower ho (below_size (ul HB.out)); (try replace HO676 := rb HO676 hb); (try replace HO679 := rb HO679 hb); (try replace HO682 := rb HO682 hb); (try replace HO685 := rb HO685 hb); (try replace BK686 := kb BK686 hb); replace BK672 := kb BK672 hb; replace BK673 := kb BK673 hb; replace HB := bs HB hb; have HO682 := ak ho; clear ho hb; refine hK.out _ _ sx (fun hHeld => ?_); clear hK K; refine nrm ?_)
    | (refine gn 8 ?_; refine Kd.R_append_rows_step k69 (w0 := w) w.heap.size (by rfl) (.tmp 5) (.tmp 7) 25 69 (.agg #[(.string ⟨#[]⟩), (.string ⟨#[]⟩)]) 32 rfl Tryz.underlying25 info69 rfl (by decide) (by omega) v675 y674 l0_0 _ _ _ (fun _ => True) (fun _ => False) rfl rfl HO676.out (Kd.C_below HR0_0.out HB.out) (fun _ _ h => h) (fun _ h => h.elim) (fun _ _ => trivial) HB.out (below_size HB.out) (by have := LMc2.out; omega) ?_; intro v678 w_ ho hb hg hat; rw [← Ny677.out] at ho; (try replace HO682 := ak (Kd.R_over' HO682.out (Kd.R_typed HO676.out) (by decide) hg)); (try replace HO685 := ak (Kd.R_over' HO685.out (Kd.R_typed HO676.out) (by decide) hg)); (try replace BK686 := ak (blk_grown BK686.out hg (Kd.R_ne HO676.out BK686.out (by decide)))); replace BK672 := ak (blk_grown BK672.out hg (Kd.R_ne HO676.out BK672.out (by decide))); replace BK673 := ak (blk_grown BK673.out hg (Kd.R_ne HO676.out BK673.out (by decide))); replace HB := ak hb; have HO679 := ak ho; clear HO676 ho hb hg hat; refine hK.out _ _ sx (fun hHeld => ?_); clear hK K; refine nrm ?_)
    | (refine gn 12 ?_; refine Kd.R_append_rows_step Kd.string (w0 := w) w.heap.size (by rfl) (.tmp 9) (.tmp 11) 23 9 (.string ⟨#[]⟩) 16 rfl Tryz.underlying23 info9 rfl (by decide) (by omega) v681 y680 l0_1 _ _ _ (fun _ => True) (fun _ => False) rfl rfl HO682.out (Kd.C_below HR0_1.out HB.out) (fun _ _ h => h) (fun _ h => h.elim) (fun _ _ => trivial) HB.out (below_size HB.out) (by have := LMc3.out; omega) ?_; intro v684 w_ ho hb hg hat; rw [← Ny683.out] at ho; (try replace HO676 := ak (Kd.R_over' HO676.out (Kd.R_typed HO682.out) (by decide) hg)); (try replace HO679 := ak (Kd.R_over' HO679.out (Kd.R_typed HO682.out) (by decide) hg)); (try replace BK686 := ak (blk_grown BK686.out hg (Kd.R_ne HO682.out BK686.out (by decide)))); replace BK672 := ak (blk_grown BK672.out hg (Kd.R_ne HO682.out BK672.out (by decide))); replace BK673 := ak (blk_grown BK673.out hg (Kd.R_ne HO682.out BK673.out (by decide))); replace HB := ak hb; have HO685 := ak ho; clear HO682 ho hb hg hat; refine hK.out _ _ sx (fun hHeld => ?_); clear hK K; refine nrm ?_))))
 rintro ⟨v675, v678, v681, v684, gb686⟩ w16 ⟨hS_, h0_, h1_, h2_, h3_, h4_, h5_, h6_, h7_, h8_, h9_, h10_, h11_⟩
 have n0_ : Aside0 (Kd.R k69 69 w16 w.heap.size (fun _ => True) v678 y677) := ⟨h0_⟩
 have n1_ : Aside0 (Kd.R Kd.string 9 w16 w.heap.size (fun _ => True) v684 y683) := ⟨h1_⟩
 have n2_ : Aside0 (w16.heap[gb672]? = some (.cells #[.slice A0_0 l0_0.length c0_0, .slice A0_1 l0_1.length c0_1, .slice A0_2 l0_2.length c0_2] 28 (0, 0))) := ⟨h2_⟩
 have n3_ : Aside0 (w16.heap[gb673]? = some (.cells #[.slice none 0 0, .slice none 0 0, .slice none 0 0] 28 (0, 0))) := ⟨h3_⟩
 have n4_ : Aside0 (w16.heap[gb686]? = some (.cells #[.slice none 0 0, .slice none 0 0, .slice none 0 0] 28 (0, 0))) := ⟨h4_⟩
 have n5_ : Aside0 (w.heap.size ≤ gb686) := ⟨h5_⟩
 have n6_ : Aside0 (w.heap.size ≤ gb686) := ⟨h6_⟩
 have n7_ : Aside0 (gb672 ≠ gb686) := ⟨h7_⟩
 have n8_ : Aside0 (gb686 ≠ gb672) := ⟨h8_⟩
 have n9_ : Aside0 (gb673 ≠ gb686) := ⟨h9_⟩
 have n10_ : Aside0 (gb686 ≠ gb673) := ⟨h10_⟩
 have n11_ : Aside0 (Below w.heap.size w w16) := ⟨h11_⟩
 clear BK672 BK673 HB h0_ h1_ h2_ h3_ h4_ h5_ h6_ h7_ h8_ h9_ h10_ h11_
 have HO679 := n0_
 have HO685 := n1_
 have BK672 := n2_
 have BK673 := n3_
 have BK686 := n4_
 have GW686 := n5_
 have GE686 := n6_
 have NB672_686 := n7_
 have NB686_672 := n8_
 have NB673_686 := n9_
 have NB686_673 := n10_
 have HB := n11_
 clear n0_ n1_ n2_ n3_ n4_ n5_ n6_ n7_ n8_ n9_ n10_ n11_
 have hHeld : w16.cell? ⟨gb672, 0, none⟩ = some (.slice A0_0 l0_0.length c0_0) ∧ w16.cell? ⟨gb672, 1, none⟩ = some (.slice A0_1 l0_1.length c0_1) ∧ w16.cell? ⟨gb672, 2, none⟩ = some (.slice A0_2 l0_2.length c0_2) := hS_
 obtain ⟨Ao17, co17, eo17⟩ := Kd.R_slice HO685.out
 (first | subst eo17 | (injection eo17 with f1_ f2_ f3_; have f4_ := f1_.symm; have f5_ := f3_.symm; clear f1_ f2_ f3_; subst f4_; subst f5_))
 obtain ⟨Ao18, co18, eo18⟩ := Kd.R_slice HO679.out
 (first | subst eo18 | (injection eo18 with f1_ f2_ f3_; have f4_ := f1_.symm; have f5_ := f3_.symm; clear f1_ f2_ f3_; subst f4_; subst f5_))
 refine norm_ (a' := ?_) ?_ ?_
 rotate_left
 ·
  simp only [putAll, Act.put, l_a, l_b, l_c]
  rfl
 refine o1 10 (fun K hK => ?_)
 have hs19 : w16.cell? ⟨gb686, 0, none⟩ = some (.slice none 0 0) := (blk_cell BK686.out 0).trans rfl
 have hfs19 := blk_frozen BK686.out 0
 have hns19_0 := NB672_686.out
 have hns19_1 := NB673_686.out
 have hms19_0 := NB686_672.out
 have hms19_1 := NB686_673.out
 have hs20 : w16.cell? ⟨gb686, 1, none⟩ = some (.slice none 0 0) := (blk_cell BK686.out 1).trans rfl
 have hfs20 := blk_frozen BK686.out 1
 have hns20_0 := NB672_686.out
 have hns20_1 := NB673_686.out
 have hms20_0 := NB686_672.out
 have hms20_1 := NB686_673.out
 have hs21 : w16.cell? ⟨gb686, 2, none⟩ = some (.slice none 0 0) := (blk_cell BK686.out 2).trans rfl
 have hfs21 := blk_frozen BK686.out 2
 have hns21_0 := NB672_686.out
 have hns21_1 := NB673_686.out
 have hms21_0 := NB686_672.out
 have hms21_1 := NB686_673.out
 refine skip_ (w1 := ?_) (by rfl) rfl ?_ ?_
 rotate_left
 ·
  go_simp
  rfl
 refine hK.out _ _ ⟨((cell_far (p := ⟨gb686, _, none⟩) NB672_686.out _).trans (((cell_far (p := ⟨gb686, _, none⟩) NB672_686.out _).trans (((cell_far (p := ⟨gb686, _, none⟩) NB672_686.out _).trans (hHeld.1)))))), ((cell_far (p := ⟨gb686, _, none⟩) NB672_686.out _).trans (((cell_far (p := ⟨gb686, _, none⟩) NB672_686.out _).trans (((cell_far (p := ⟨gb686, _, none⟩) NB672_686.out _).trans (hHeld.2.1)))))), ((cell_far (p := ⟨gb686, _, none⟩) NB672_686.out _).trans (((cell_far (p := ⟨gb686, _, none⟩) NB672_686.out _).trans (((cell_far (p := ⟨gb686, _, none⟩) NB672_686.out _).trans (hHeld.2.2))))))⟩ (fun hHeld => ?_)
 clear hK K
 refine done_ (done_of HT_.out (by kernel_rfl)) ?_
 try go_wp2
 go_loopg [4] k (fun kq v4 w' => ∃ (x4_1 : Int) (x687002_1 : List (S28)) (u687002 : Value), v4 = .int .i64 x4_1 ∧ Aside0 (spec_l8Copy.l0 kq x4_1 l0_0 l0_1 l0_2 y677 y683 x687002_1 = some (r1, r2, r3)) ∧ Aside0 (kq ≤ k) ∧ Aside0 (Kd.R k69 69 w' w.heap.size (fun _ => True) (.slice Ao18 y677.length co18) y677) ∧ Aside0 (Kd.R Kd.string 9 w' w.heap.size (fun _ => True) (.slice Ao17 y683.length co17) y683) ∧ Aside0 (Kd.R k28 28 w' w.heap.size (fun k_ => some k_ ≠ ((.slice Ao18 y677.length co18) : Value).ownBlock ∧ some k_ ≠ ((.slice Ao17 y683.length co17) : Value).ownBlock ∧ k_ ≠ gb672 ∧ k_ ≠ gb673 ∧ k_ ≠ gb686) u687002 x687002_1) ∧ Aside0 (w'.heap[gb672]? = some (.cells #[(.slice A0_0 l0_0.length c0_0), (.slice A0_1 l0_1.length c0_1), (.slice A0_2 l0_2.length c0_2)] 28 (0, 0))) ∧ Aside0 (w'.heap[gb673]? = some (.cells #[(.slice none 0 0), (.slice none 0 0), (.slice none 0 0)] 28 (0, 0))) ∧ Aside0 (w'.heap[gb686]? = some (.cells #[(.slice Ao18 y677.length co18), (.slice Ao17 y683.length co17), u687002] 28 (0, 0))) ∧ Aside0 (Below w.heap.size w w'))
 case atStart => exact ⟨_, _, _, rs, H', ⟨Nat.le_refl _⟩, ⟨rr⟩, ⟨rr⟩, ⟨nx⟩, ⟨bq⟩, ⟨bq⟩, ⟨bq⟩, ⟨bb⟩⟩
 case round =>
  clear H'
  obtain ⟨x4_1, x687002_1, u687002, rfl, HA, HK1, HO_687000, HO_687001, HO_687002, BK672, BK673, BK686, HB⟩ := hrel
  cases gk with
  | zero => exact zz HA.out
  | succ k1 =>
   obtain ⟨H⟩ := HA
   simp only [spec_l8Copy.l0] at H
   replace H := sd H
   rcases H with ⟨c22b0, H⟩ | ⟨c22b0, H⟩
   ·
    replace H := nde H; obtain ⟨c23b0, H⟩ := H; replace H := bd H
    obtain ⟨⟨t688, t691, t694⟩, A24, H⟩ := H
    (try dsimp only at H)
    replace H := nl H; obtain ⟨LMc25, H⟩ := H
    obtain ⟨y697, Ny697⟩ := nm (x687002_1 ++ [(⟨t688, t691, t694⟩ : S28)])
    rw [← Ny697.out] at H
    have H' := ak H; clear H
    have hnb26 := NB672_673.out
    have hnc26 := NB673_672.out
    have hnb27 := NB672_686.out
    have hnc27 := NB686_672.out
    have z28 := cz3 BK672.out
    try go_wp2
    replace HO_687000 := ak (Kd.R_drew HO_687000.out)
    replace HO_687001 := ak (Kd.R_drew HO_687001.out)
    replace HO_687002 := ak (Kd.R_drew HO_687002.out)
    replace BK672 := ak (blk_drew BK672.out)
    replace BK673 := ak (blk_drew BK673.out)
    replace BK686 := ak (blk_drew BK686.out)
    replace HB := ak (below_drew1 HB.out)
    have p687 := zi x4_1
    have q687 := zj x4_1 l0_2.length
    obtain ⟨ad687, A687_0, c687_0, A687_1, c687_1, A687_2, c687_2, e687, hx687_0, hx687_1, hx687_2, hl687_0, hi687_0, hl687_1, hi687_1, hl687_2, hi687_2⟩ := at_T28 HR0_2.out x4_1 p687 q687
    have hw687_2 := hx687_2
    have hw687_1 := hx687_1
    have hw687_0 := hx687_0
    cases e687
    replace hx687_0 := cl HB.out hx687_0
    replace hx687_1 := cl HB.out hx687_1
    replace hx687_2 := cl HB.out hx687_2
    have HR687_0 := ak hi687_0
    have HC687_0 := ak hl687_0
    clear hi687_0 hl687_0
    have HR687_1 := ak hi687_1
    have HC687_1 := ak hl687_1
    clear hi687_1 hl687_1
    have HR687_2 := ak hi687_2
    have HC687_2 := ak hl687_2
    clear hi687_2 hl687_2
    replace p687 := eq_true p687
    replace q687 := eq_true q687
    refine start_ (n := 12) (S := fun w' => w'.cell? ⟨gb686, 0, none⟩ = some (.slice Ao18 y677.length co18) ∧ w'.cell? ⟨gb686, 1, none⟩ = some (.slice Ao17 y683.length co17) ∧ w'.cell? ⟨gb686, 2, none⟩ = some (u687002) ∧ w'.cell? ⟨gb672, 0, none⟩ = some (.slice A0_0 l0_0.length c0_0) ∧ w'.cell? ⟨gb672, 1, none⟩ = some (.slice A0_1 l0_1.length c0_1) ∧ w'.cell? ⟨gb672, 2, none⟩ = some (.slice (some ad687) l0_2.length c0_2) ∧ w'.cell? (ad687.add ((x4_1).toNat * 3)) = some (.slice A687_0 ((rd_T28 l0_2 x4_1).f0).length c687_0) ∧ w'.cell? ⟨(ad687.add ((x4_1).toNat * 3)).block, (ad687.add ((x4_1).toNat * 3)).off + 1, none⟩ = some (.slice A687_1 ((rd_T28 l0_2 x4_1).f1).length c687_1) ∧ w'.cell? ⟨(ad687.add ((x4_1).toNat * 3)).block, (ad687.add ((x4_1).toNat * 3)).off + 2, none⟩ = some (.slice A687_2 ((rd_T28 l0_2 x4_1).f2).length c687_2)) (ds := [11]) #[false, false, false, false, false, false, false, false, false, false, false, false] (by kernel_rfl) rfl rfl ⟨(blk_cell BK686.out 0).trans rfl, (blk_cell BK686.out 1).trans rfl, (blk_cell BK686.out 2).trans rfl, (blk_cell BK672.out 0).trans rfl, (blk_cell BK672.out 1).trans rfl, (blk_cell BK672.out 2).trans rfl, ((HB.out.cell (World.block_lt_of_cell? w _ hw687_0)).trans hw687_0), ((HB.out.cell (World.block_lt_of_cell? w _ hw687_1)).trans hw687_1), ((HB.out.cell (World.block_lt_of_cell? w _ hw687_2)).trans hw687_2)⟩ (fun hHeld => ?_); refine with_tabW spec_l8Copy.tab5 spec_l8Copy.bits5 (fun HT_ HW_ => ?_)
    generalize wr.drew = w29 at HO_687000 HO_687001 HO_687002 BK672 BK673 BK686 HB HR687_0 HR687_1 HR687_2 hx687_0 hx687_1 hx687_2 hHeld ⊢
    refine pl 0 ?_
    refine pl 2 ?_
    refine pl 4 ?_
    refine tk 1 ?_
    refine tk 3 ?_
    refine pl 5 ?_
    refine tk 6 ?_
    refine o1 7 (fun K hK => ?_)
    refine goes_ Tryz.func110 (by kernel_rfl) rfl #[.agg #[.slice A687_0 ((rd_T28 l0_2 x4_1).f0).length c687_0, .slice A687_1 ((rd_T28 l0_2 x4_1).f1).length c687_1, .slice A687_2 ((rd_T28 l0_2 x4_1).f2).length c687_2]] (by rfl) rfl rfl ma ?_
    with_reducible refine (ih k1 (by have := HK1.out; omega) _ _ ((rd_T28 l0_2 x4_1).f0) _ _ ((rd_T28 l0_2 x4_1).f1) _ _ ((rd_T28 l0_2 x4_1).f2) t688 t691 t694 _ ?side1 ?side2 ?side3 ?side4 ?side5 ?side6 A24.out).mono ?_
    (case side1 => repeat (first | exact (Kd.C_below HR687_0.out HB.out) | (with_reducible refine Kd.C_alloc ?_ _) | (with_reducible refine Kd.C_drewN ?_ _) | (with_reducible refine Kd.C_drew ?_)))
    (case side2 => exact HC687_0.out)
    (case side3 => repeat (first | exact (Kd.C_below HR687_1.out HB.out) | (with_reducible refine Kd.C_alloc ?_ _) | (with_reducible refine Kd.C_drewN ?_ _) | (with_reducible refine Kd.C_drew ?_)))
    (case side4 => exact HC687_1.out)
    (case side5 => repeat (first | exact (Kd.C_below HR687_2.out HB.out) | (with_reducible refine Kd.C_alloc ?_ _) | (with_reducible refine Kd.C_drewN ?_ _) | (with_reducible refine Kd.C_drew ?_)))
    (case side6 => exact HC687_2.out)
    rintro e w30 ⟨v689, v692, v695, rfl, ho0, ho1, ho2, hb⟩
    refine ⟨_, rfl, ?_⟩
    have HO690 := ak (Kd.R_lower (Kd.R_new' ho0 (Kd.R_lt (ur HO_687000.out))) (below_size bb))
    have HO693 := ak (Kd.R_lower (Kd.R_new' ho1 (Kd.R_lt (ur HO_687001.out))) (below_size bb))
    have HO696 := ak (Kd.R_lower (Kd.R_newB (Kd.R_newB (Kd.R_newB (Kd.R_new' (Kd.R_new' (Kd.R_new' ho2 (Kd.R_lt (ur HO_687000.out))) (Kd.R_lt (ur HO_687001.out))) (Kd.R_lt (ur HO_687002.out))) (g := gb672) (o := .cells #[.slice A0_0 l0_0.length c0_0, .slice A0_1 l0_1.length c0_1, .slice (some ad687) l0_2.length c0_2] 28 (0, 0)) (ub BK672.out)) (g := gb673) (o := .cells #[.slice none 0 0, .slice none 0 0, .slice none 0 0] 28 (0, 0)) (ub BK673.out)) (g := gb686) (o := .cells #[.slice Ao18 y677.length co18, .slice Ao17 y683.length co17, u687002] 28 (0, 0)) (ub BK686.out)) (below_size bb))
    replace HO_687000 := ak (Kd.R_elder' (ur HO_687000.out) (Kd.R_base ho0) hb)
    replace HO_687001 := ak (Kd.R_elder' (ur HO_687001.out) (Kd.R_base ho1) hb)
    replace HO_687002 := ak (Kd.R_mono (Kd.R_told (Kd.R_told (Kd.R_told (Kd.R_old (ur HO_687002.out) hb) (Kd.R_base ho0)) (Kd.R_base ho1)) (Kd.R_base ho2)) (fun _ h_ => h_.1))
    replace BK672 := kb BK672 hb
    replace BK673 := kb BK673 hb
    replace BK686 := kb BK686 hb
    replace HB := bz HB hb
    try clear hb
    try clear ho0
    try clear ho1
    try clear ho2
    obtain ⟨Ao32, co32, eo32⟩ := Kd.R_slice HO690.out
    (first | subst eo32 | (injection eo32 with f1_ f2_ f3_; have f4_ := f1_.symm; have f5_ := f3_.symm; clear f1_ f2_ f3_; subst f4_; subst f5_))
    obtain ⟨Ao33, co33, eo33⟩ := Kd.R_slice HO693.out
    (first | subst eo33 | (injection eo33 with f1_ f2_ f3_; have f4_ := f1_.symm; have f5_ := f3_.symm; clear f1_ f2_ f3_; subst f4_; subst f5_))
    obtain ⟨Ao34, co34, eo34⟩ := Kd.R_slice HO696.out
    (first | subst eo34 | (injection eo34 with f1_ f2_ f3_; have f4_ := f1_.symm; have f5_ := f3_.symm; clear f1_ f2_ f3_; subst f4_; subst f5_))
    refine hK.out _ _ ⟨(blk_cell BK686.out 0).trans rfl, (blk_cell BK686.out 1).trans rfl, (blk_cell BK686.out 2).trans rfl, (blk_cell BK672.out 0).trans rfl, (blk_cell BK672.out 1).trans rfl, (blk_cell BK672.out 2).trans rfl, ((HB.out.cell (World.block_lt_of_cell? w _ hw687_0)).trans hw687_0), ((HB.out.cell (World.block_lt_of_cell? w _ hw687_1)).trans hw687_1), ((HB.out.cell (World.block_lt_of_cell? w _ hw687_2)).trans hw687_2)⟩ (fun hHeld => ?_)
    clear hK K
    refine nrm ?_
    refine o1 8 (fun K hK => ?_)
    refine value_ (w1 := ?_) (v := ?_) (by rfl) rfl ?_ ?_
    rotate_left 2
    ·
     go_simp
     constructor
     ·
      rfl
     ·
      rfl
    refine hK.out _ _ ⟨(blk_cell (blk_alloc BK686.out _) 0).trans rfl, (blk_cell (blk_alloc BK686.out _) 1).trans rfl, (blk_cell (blk_alloc BK686.out _) 2).trans rfl, (blk_cell (blk_alloc BK672.out _) 0).trans rfl, (blk_cell (blk_alloc BK672.out _) 1).trans rfl, (blk_cell (blk_alloc BK672.out _) 2).trans rfl, (World.cell?_alloc_lt _ _ _ (World.block_lt_of_cell? _ _ (((HB.out.cell (World.block_lt_of_cell? w _ hw687_0)).trans hw687_0)))).trans (((HB.out.cell (World.block_lt_of_cell? w _ hw687_0)).trans hw687_0)), (World.cell?_alloc_lt _ _ _ (World.block_lt_of_cell? _ _ (((HB.out.cell (World.block_lt_of_cell? w _ hw687_1)).trans hw687_1)))).trans (((HB.out.cell (World.block_lt_of_cell? w _ hw687_1)).trans hw687_1)), (World.cell?_alloc_lt _ _ _ (World.block_lt_of_cell? _ _ (((HB.out.cell (World.block_lt_of_cell? w _ hw687_2)).trans hw687_2)))).trans (((HB.out.cell (World.block_lt_of_cell? w _ hw687_2)).trans hw687_2))⟩ (fun hHeld => ?_)
    clear hK K
    refine nrm ?_
    refine o1 9 (fun K hK => ?_)
    refine Kd.R_append_step k28 (w0 := w) w.heap.size (by rfl) (.tmp 22) (.tmp 29) 26 28 (.agg #[(.slice none 0 0), (.slice none 0 0), (.slice none 0 0)]) 72 rfl Tryz.underlying26 info28 rfl (by decide) (by omega) u687002 x687002_1 (⟨t688, t691, t694⟩ : S28) [.slice Ao32 t688.length co32, .slice Ao33 t691.length co33, .slice Ao34 t694.length co34] (fun k_ => some k_ ≠ (.slice Ao18 y677.length co18 : Value).ownBlock ∧ some k_ ≠ (.slice Ao17 y683.length co17 : Value).ownBlock ∧ k_ ≠ gb672 ∧ k_ ≠ gb673 ∧ k_ ≠ gb686) (fun k_ => ((fun k_ => some k_ ≠ (.slice Ao18 y677.length co18 : Value).ownBlock ∧ some k_ ≠ (.slice Ao17 y683.length co17 : Value).ownBlock ∧ k_ ≠ gb672 ∧ k_ ≠ gb673 ∧ k_ ≠ gb686)) k_ ∧ some k_ ≠ (u687002 : Value).ownBlock) rfl rfl ?aP (fun _ hk => hk) ?aF ?aO ?aB ?aS ?aL ?_
    (case aP => exact k28_mkM _ _ _ (⟨t688, t691, t694⟩ : S28) (Kd.R_mono (Kd.R_types (Kd.R_types (Kd.R_types (Kd.R_apart' (Kd.R_apart' (HO690.out) (Kd.R_typed HO_687001.out) (by decide)) (Kd.R_typed HO_687002.out) (by decide)) BK672.out (by decide)) BK673.out (by decide)) BK686.out (by decide)) (fun k_ hk => ⟨⟨hk.1.1.1.1.1.2, ⟨hk.1.1.1.1.2, ⟨hk.1.1.2, ⟨hk.1.2, hk.2⟩⟩⟩⟩, hk.1.1.1.2⟩)) (Kd.R_mono (Kd.R_types (Kd.R_types (Kd.R_types (Kd.R_apart' (Kd.R_apart' (HO693.out) (Kd.R_typed HO_687000.out) (by decide)) (Kd.R_typed HO_687002.out) (by decide)) BK672.out (by decide)) BK673.out (by decide)) BK686.out (by decide)) (fun k_ hk => ⟨⟨hk.1.1.1.1.2, ⟨hk.1.1.1.1.1.2, ⟨hk.1.1.2, ⟨hk.1.2, hk.2⟩⟩⟩⟩, hk.1.1.1.2⟩)) (Kd.R_mono (HO696.out) (fun k_ hk => ⟨⟨hk.1.1.1.1.1.2, ⟨hk.1.1.1.1.2, ⟨hk.1.1.2, ⟨hk.1.2, hk.2⟩⟩⟩⟩, hk.1.1.1.2⟩)))
    (case aB => exact bb)
    (case aF => exact (fun k_ hk => ⟨Kd.fresh' (Kd.R_lt (ur HO_687000.out)) k_ hk, Kd.fresh' (Kd.R_lt (ur HO_687001.out)) k_ hk, Kd.freshB (g := gb672) (o := .cells #[.slice A0_0 l0_0.length c0_0, .slice A0_1 l0_1.length c0_1, .slice (some ad687) l0_2.length c0_2] 28 (0, 0)) (ub BK672.out) k_ hk, Kd.freshB (g := gb673) (o := .cells #[.slice none 0 0, .slice none 0 0, .slice none 0 0] 28 (0, 0)) (ub BK673.out) k_ hk, Kd.freshB (g := gb686) (o := .cells #[.slice Ao18 y677.length co18, .slice Ao17 y683.length co17, u687002] 28 (0, 0)) (ub BK686.out) k_ hk⟩))
    (case aO => exact (ur (Kd.R_mono HO_687002.out (fun _ hk => ⟨hk.1.1.1.1, ⟨hk.1.1.1.2.1, ⟨hk.1.1.1.2.2.1, ⟨hk.1.1.1.2.2.2.1, hk.1.1.1.2.2.2.2⟩⟩⟩⟩))))
    (case aS => exact (below_size bb))
    (case aL => have := LMc25.out; omega)
    intro v698 w31 ho hb hg hat
    rw [← Ny697.out] at ho
    have n0_ := ak (Kd.R_over' (ur HO_687000.out) (Kd.R_typed (ur HO_687002.out)) (by decide) hg)
    have n1_ := ak (Kd.R_over' (ur HO_687001.out) (Kd.R_typed (ur HO_687002.out)) (by decide) hg)
    have n2_ := ak (blk_grown (g := gb672) (o := .cells #[.slice A0_0 l0_0.length c0_0, .slice A0_1 l0_1.length c0_1, .slice (some ad687) l0_2.length c0_2] 28 (0, 0)) (ub BK672.out) hg (Kd.R_away HO_687002.out (fun _ hk => hk.1.1.1.2.2.1)))
    have n3_ := ak (blk_grown (g := gb673) (o := .cells #[.slice none 0 0, .slice none 0 0, .slice none 0 0] 28 (0, 0)) (ub BK673.out) hg (Kd.R_away HO_687002.out (fun _ hk => hk.1.1.1.2.2.2.1)))
    have n4_ := ak (blk_grown (g := gb686) (o := .cells #[.slice Ao18 y677.length co18, .slice Ao17 y683.length co17, u687002] 28 (0, 0)) (ub BK686.out) hg (Kd.R_away HO_687002.out (fun _ hk => hk.1.1.1.2.2.2.2)))
    have n5_ := ak (hb)
    have n6_ := ak (ho)
    clear HO_687000 HO_687001 BK672 BK673 BK686 HB HO_687002 HO690 HO693 HO696
    have HO_687000 := n0_
    have HO_687001 := n1_
    have BK672 := n2_
    have BK673 := n3_
    have BK686 := n4_
    have HB := n5_
    have HO699 := n6_
    clear n0_ n1_ n2_ n3_ n4_ n5_ n6_ ho hb hg hat
    obtain ⟨Ao35, co35, eo35⟩ := Kd.R_slice HO699.out
    (first | subst eo35 | (injection eo35 with f1_ f2_ f3_; have f4_ := f1_.symm; have f5_ := f3_.symm; clear f1_ f2_ f3_; subst f4_; subst f5_))
    refine hK.out _ _ ⟨(blk_cell BK686.out 0).trans rfl, (blk_cell BK686.out 1).trans rfl, (blk_cell BK686.out 2).trans rfl, (blk_cell BK672.out 0).trans rfl, (blk_cell BK672.out 1).trans rfl, (blk_cell BK672.out 2).trans rfl, ((HB.out.cell (World.block_lt_of_cell? w _ hw687_0)).trans hw687_0), ((HB.out.cell (World.block_lt_of_cell? w _ hw687_1)).trans hw687_1), ((HB.out.cell (World.block_lt_of_cell? w _ hw687_2)).trans hw687_2)⟩ (fun hHeld => ?_)
    clear hK K
    refine nrm ?_
    refine pl 10 ?_
    refine last_ (i := 11) (N := none) #[true, true, true, true, true, true, true, true, true, true, true, true] rfl rfl (one_of HT_.out (by kernel_rfl)) (by decide) (fun K hK => ?_)
    have hs36 : w31.cell? ⟨gb686, 2, none⟩ = some (u687002) := (blk_cell BK686.out 2).trans rfl
    have hfs36 := blk_frozen BK686.out 2
    have hns36_0 := NB672_686.out
    have hns36_1 := NB673_686.out
    have hms36_0 := NB686_672.out
    have hms36_1 := NB686_673.out
    refine skip_ (w1 := ?_) (by rfl) rfl ?_ ?_
    rotate_left
    ·
     go_simp
     rfl
    refine hK.out _ _ ?_
    clear hK K
    refine done_ (done_of HT_.out (by kernel_rfl)) ?_
    try go_wp2
    go_roundg k1
    case measure => exact kl
    case rel => exact ⟨_, _, _, rs, H', ⟨kl⟩, ⟨rr⟩, ⟨rr⟩, ⟨rr⟩, ⟨bq⟩, ⟨bq⟩, ⟨bq⟩, ⟨bb⟩⟩
   ·
    obtain ⟨rfl, rfl, rfl⟩ := s3 H
    have hnb37 := NB672_673.out
    have hnc37 := NB673_672.out
    have hnb38 := NB672_686.out
    have hnc38 := NB686_672.out
    have z39 := cz3 BK672.out
    have hnb40 := NB686_673.out
    have hnc40 := NB673_686.out
    have z41 := cz3 BK686.out
    have z42 := cz3 BK673.out
    obtain ⟨Ao43, co43, eo43⟩ := Kd.R_slice HO_687002.out
    subst eo43
    go_wp2
    refine bodyPost_ret (results_cell_row rfl _ _ gb673 28 #[.slice Ao18 y677.length co18, .slice Ao17 y683.length co17, .slice Ao43 x687002_1.length co43] (0, 0) _ rfl bq Tryz.underlying28 rfl (by kernel_rfl)) rfl ?_
    exact ⟨_, _, _, er, rr, rr, rr, bb⟩
end Go.Proofs.YtncdadcmghglkaaGreatDoor.PFnPartSame
