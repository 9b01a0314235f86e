/- Printed walks; conditions: those in each statement. -/
import Derived.Test.YtncdadcmghglkaaGreatDoorVFnPartSameQt
import Derived.Test.YtncdadcmghglkaaGreatDoorVFnPartSameYt
import Derived.Test.YtncdadcmghglkaaGreatDoorPFnPartSamex0
import Derived.Test.YtncdadcmghglkaaGreatDoorPFnPartSamex13
import Derived.Test.YtncdadcmghglkaaGreatDoorPFnPartSamex20
import Derived.Test.YtncdadcmghglkaaGreatDoorPFnPartSamex22
-- short
-- dense
-- sq
-- sq2
namespace Go.Proofs.YtncdadcmghglkaaGreatDoor.PFnPartSame
open Go.RowKit Go.Proofs.YtncdadcmghglkaaGreatDoor.X Go.Proofs.YtncdadcmghglkaaGreatDoorW.PrintWords Go.Proofs.YtncdadcmghglkaaGreatDoorW.PrintLast Go.Proofs.YtncdadcmghglkaaGreatDoorW.PrintMore
attribute [local go_sem] max2_int min2_int max_two min_two max_three min_three max_four min_four   -- for this text's walks alone
set_option linter.unusedVariables false
set_option maxHeartbeats 8000000
set_option maxRecDepth 100000
set_option linter.unusedSimpArgs false
attribute [local go_sem high] eqA69
def spec_DrawPartSame.f (k : Nat) (l0 : List Int) : Option ((List (S69)) × List ByteArray × (List (S28)) × (List (S69)) × List ByteArray × (List (S28))) := (spec_l13Open.f l0).bind fun bt750 => ((spec_l8Draw.f k bt750.1 bt750.2 3).bind fun bt753 => ((spec_l13Rd_pick.f k bt750.1 bt753.2.2.2 3).bind fun bt764 => (if bt764.1 = 0 then ((spec_l8Draw.f k bt750.1 bt764.2 3).bind fun bt766 => (some (bt753.1, bt753.2.1, bt753.2.2.1, bt766.1, bt766.2.1, bt766.2.2.1))) else ((spec_l8Wrong.f k bt750.1 bt764.2 bt753.1 bt753.2.1 bt753.2.2.1).bind fun bt776 => ((spec_l8Wrong.f k bt750.1 bt776.2.2.2 bt776.1 bt776.2.1 bt776.2.2.1).bind fun bt786 => (some (bt753.1, bt753.2.1, bt753.2.2.1, bt786.1, bt786.2.1, bt786.2.2.1)))))))
def spec_DrawPartSame.T5 : Bool × List (List Nat × List Nat) := (true, [([], []), ([], []), ([], []), ([], []), ([2, 3], [2, 3]), ([1, 4, 4], [1, 4]), ([0, 5, 0], [0]), ([5, 6, 0, 1, 2, 3, 4, 5, 6], [5])])
def spec_DrawPartSame.B5 : List Nat := [0, 0, 0, 0, 12, 30, 63, 127]
theorem spec_DrawPartSame.tab5 : rtab .any (opsOf Tryz.f27 5) = spec_DrawPartSame.T5 := by kernel_rfl
theorem spec_DrawPartSame.bits5 : waitsOk spec_DrawPartSame.T5.2 spec_DrawPartSame.B5 = true := by kernel_rfl
theorem spec_DrawPartSame.calls {k c0 : Nat} {A0 : Option Addr} {l0 : List Int} {r1 r4 : List (S69)} {r2 r5 : List ByteArray} {r3 r6 : List (S28)} {w : World} (hr0 : Kd.C (Kd.int .u8) w A0 l0.length l0) (hc0 : l0.length ≤ c0) (h : spec_DrawPartSame.f k l0 = some (r1, r2, r3, r4, r5, r6)) :
  Calls Tryz.prog 27 #[.slice A0 l0.length c0] w fun e w' => ∃ v0_ v1_ v2_ v3_ v4_ v5_ : Value, e = .returned (.tuple #[.agg #[v0_, v1_, v2_], .agg #[v3_, v4_, v5_]]) ∧ Kd.R k69 69 w' w.heap.size (fun k_ => some k_ ≠ (v3_ : Value).ownBlock) v0_ r1 ∧ Kd.R Kd.string 9 w' w.heap.size (fun k_ => some k_ ≠ (v4_ : Value).ownBlock) v1_ r2 ∧ Kd.R k28 28 w' w.heap.size (fun k_ => some k_ ≠ (v0_ : Value).ownBlock ∧ some k_ ≠ (v1_ : Value).ownBlock ∧ some k_ ≠ (v3_ : Value).ownBlock ∧ some k_ ≠ (v4_ : Value).ownBlock ∧ some k_ ≠ (v5_ : Value).ownBlock) v2_ r3 ∧ Kd.R k69 69 w' w.heap.size (fun k_ => some k_ ≠ (v0_ : Value).ownBlock) v3_ r4 ∧ Kd.R Kd.string 9 w' w.heap.size (fun k_ => some k_ ≠ (v1_ : Value).ownBlock) v4_ r5 ∧ Kd.R k28 28 w' w.heap.size (fun k_ => some k_ ≠ (v0_ : Value).ownBlock ∧ some k_ ≠ (v1_ : Value).ownBlock ∧ some k_ ≠ (v2_ : Value).ownBlock ∧ some k_ ≠ (v3_ : Value).ownBlock ∧ some k_ ≠ (v4_ : Value).ownBlock) v5_ r6 ∧ Below w.heap.size w w' := by
 have hu28 := Tryz.underlying28
 have HR0 := ak hr0
 have HC0 := ak hc0
 clear hr0 hc0
 have HB := ak (Below.refl w.heap.size w)
 have H : ((spec_l13Open.f l0).bind fun bt750 => ((spec_l8Draw.f k bt750.1 bt750.2 3).bind fun bt753 => ((spec_l13Rd_pick.f k bt750.1 bt753.2.2.2 3).bind fun bt764 => (if bt764.1 = 0 then ((spec_l8Draw.f k bt750.1 bt764.2 3).bind fun bt766 => (some (bt753.1, bt753.2.1, bt753.2.2.1, bt766.1, bt766.2.1, bt766.2.2.1))) else ((spec_l8Wrong.f k bt750.1 bt764.2 bt753.1 bt753.2.1 bt753.2.2.1).bind fun bt776 => ((spec_l8Wrong.f k bt750.1 bt776.2.2.2 bt776.1 bt776.2.1 bt776.2.2.1).bind fun bt786 => (some (bt753.1, bt753.2.1, bt753.2.2.1, bt786.1, bt786.2.1, bt786.2.2.1)))))))) = some (r1, r2, r3, r4, r5, r6) := h
 clear h
 replace H := bd H
 obtain ⟨⟨t750, t751⟩, A2, H⟩ := H
 (try dsimp only at H)
 replace H := bd H
 obtain ⟨⟨t753, t756, t759, t762⟩, A3, H⟩ := H
 (try dsimp only at H)
 replace H := bd H
 obtain ⟨⟨t764, t765⟩, A4, H⟩ := H
 (try dsimp only at H)
 replace H := sq H
 rcases H with ⟨c5b0, c5b1, H⟩ | ⟨c5, c5b0, c5b1, H⟩
 ·
  replace H := bd H
  obtain ⟨⟨t766, t769, t772, t775⟩, A6, H⟩ := H
  (try dsimp only at H)
  simp only [Option.some.injEq, Prod.mk.injEq] at H
  obtain ⟨rfl, rfl, rfl, rfl, rfl, rfl⟩ := H
  go_enter Tryz.func27, Tryz.ntmps27
  try go_wp2_with (first | (refine bX HB 2 #[.slice none 0 0, .slice none 0 0, .slice none 0 0] 28 ?_; intro gb748 w7 BK748 GW748 hb; replace HB := bs HB hb; clear hb) | (refine bY HB 3 #[.slice none 0 0, .slice none 0 0, .slice none 0 0] 28 ?_; intro gb749 w8 BK749 GW749 hg hb; have NB748_749 := nl_ BK748 hg; have NB749_748 := ng_ BK748 hg; replace BK748 := kb BK748 hb; replace HB := bz HB hb; clear hb hg) | (refine gL 55 7 Tryz.func55 #[.slice A0 l0.length c0] ?_; (with_reducible refine (spec_l13Open.calls w ?side1 HR0.out HC0.out A2.out).mono ?_); (case side1 => exact bi_); rintro e w9 ⟨g752, rfl, hi, hb, hb2⟩; refine ⟨_, rfl, ?_⟩; have HI752 := ak (hi); have NB752_748 := ak (IsS109.ne_blk hi (blk_below (ub BK748.out) hb2) (by decide)); have NB748_752 := ak (Ne.symm (IsS109.ne_blk hi (blk_below (ub BK748.out) hb2) (by decide))); have NB752_749 := ak (IsS109.ne_blk hi (blk_below (ub BK749.out) hb2) (by decide)); have NB749_752 := ak (Ne.symm (IsS109.ne_blk hi (blk_below (ub BK749.out) hb2) (by decide))); replace BK748 := kb BK748 hb2; replace BK749 := kb BK749 hb2; replace HB := ak (hb); clear hb; (try clear hb2); (try clear hi)) | (refine gL 56 9 Tryz.func56 #[.pointer (some ⟨g752, 0, none⟩), .int .i64 3] ?_; (with_reducible refine (spec_l8Draw.calls k g752 t750 t751 3 t753 t756 t759 t762 w _ ?side1 ?side2 A3.out).mono ?_); (case side1 => exact is_); (case side2 => exact bi_); rintro e w10 ⟨v754, v757, v760, rfl, ho0, ho1, ho2, hi, hb, hk⟩; refine ⟨_, rfl, ?_⟩; have HO755 := ak (Kd.R_lower ho0 (below_size bi_)); have HO758 := ak (Kd.R_lower ho1 (below_size bi_)); have HO761 := ak (Kd.R_lower (Kd.R_newB (Kd.R_newB ho2 (g := gb748) (o := .cells #[.slice none 0 0, .slice none 0 0, .slice none 0 0] 28 (0, 0)) (ub BK748.out)) (g := gb749) (o := .cells #[.slice none 0 0, .slice none 0 0, .slice none 0 0] 28 (0, 0)) (ub BK749.out)) (below_size bi_)); replace BK748 := kc BK748 hk NB748_752; replace BK749 := kc BK749 hk NB749_752; replace HB := ak (hb); replace HI752 := ak (hi); clear hb; (try clear hk); (try clear hi); (try clear ho0); (try clear ho1); (try clear ho2)) | (refine bE 5 #[.slice none 0 0, .slice none 0 0, .slice none 0 0] 28 ?_; intro gb763 hg w11 hbox hb; have BK763 := ak (hbox); have GW763 := ak ((by rw [hg]; exact (below_size bi_) : w.heap.size ≤ gb763)); have GE763 := ak ((by rw [hg]; exact (below_size bi_) : w.heap.size ≤ gb763)); have NB748_763 := ak ((by rw [hg]; exact Nat.ne_of_lt (blk_lt (ub BK748.out)) : gb748 ≠ gb763)); have NB763_748 := ak ((by rw [hg]; exact Nat.ne_of_gt (blk_lt (ub BK748.out)) : gb763 ≠ gb748)); have NB749_763 := ak ((by rw [hg]; exact Nat.ne_of_lt (blk_lt (ub BK749.out)) : gb749 ≠ gb763)); have NB763_749 := ak ((by rw [hg]; exact Nat.ne_of_gt (blk_lt (ub BK749.out)) : gb763 ≠ gb749)); have NB752_763 := ak ((by rw [hg]; exact Nat.ne_of_lt (IsS109.lt (show IsS109 w _ g752 t750 t762 from is_)) : g752 ≠ gb763)); have NB763_752 := ak ((by rw [hg]; exact Nat.ne_of_gt (IsS109.lt (show IsS109 w _ g752 t750 t762 from is_)) : gb763 ≠ g752)); replace HO755 := rb HO755 hb; replace HO758 := rb HO758 hb; replace HO761 := ak (Kd.R_below (Kd.R_elderB (ur HO761.out) gb763 (Nat.le_of_eq hg.symm)) hb); replace BK748 := kb BK748 hb; replace BK749 := kb BK749 hb; replace HB := ak (below_step bi_ hb); replace HI752 := ak (IsS109.below is_ hb); clear hb hbox hg; obtain ⟨Ao12, co12, eo12⟩ := Kd.R_slice HO755.out; subst eo12; have hnb13 := NB763_748.out; have hnc13 := NB748_763.out; have hnb14 := NB763_749.out; have hnc14 := NB749_763.out; have hnb15 := NB763_752.out; have hnc15 := NB752_763.out; have z16 := cz3 BK763.out; obtain ⟨Ao17, co17, eo17⟩ := Kd.R_slice HO758.out; subst eo17; obtain ⟨Ao18, co18, eo18⟩ := Kd.R_slice HO761.out; subst eo18) | (refine gL 57 11 Tryz.func57 #[.pointer (some ⟨g752, 0, none⟩), .int .i64 3] ?_; (with_reducible refine (spec_l13Rd_pick.calls w ?side1 ?side2 A4.out).mono ?_); (case side1 => exact is_); (case side2 => exact bi_); rintro e w19 ⟨rfl, hi, hb, hk⟩; refine ⟨_, rfl, ?_⟩; replace BK748 := kd_ BK748 #[.slice none 0 0, .slice none 0 0, .slice none 0 0] hk NB748_752; replace BK749 := kd_ BK749 #[.slice none 0 0, .slice none 0 0, .slice none 0 0] hk NB749_752; replace HO755 := ki (w0 := w) (f0 := t750) (f1 := t762) HO755 hk; replace HO758 := ki (w0 := w) (f0 := t750) (f1 := t762) HO758 hk; replace HO761 := ak (Kd.R_mono (Kd.R_keep (IsS109.apart (show IsS109 w _ g752 t750 t762 from is_) (ur (Kd.R_mono (Kd.R_far (p := ⟨gb763, 2, none⟩) (Kd.R_far (p := ⟨gb763, 1, none⟩) (Kd.R_far (p := ⟨gb763, 0, none⟩) (Kd.R_mono HO761.out (fun k_ hk => (⟨hk, hk.2⟩ : _ ∧ k_ ≠ gb763))) (fun _ hk => hk.2) (.slice Ao12 t753.length co12)) (fun _ hk => hk.2) (.slice Ao17 t756.length co17)) (fun _ hk => hk.2) (.slice Ao18 t759.length co18)) (fun _ h_ => h_.1))) (by decide)) hk (fun _ h => h.2)) (fun _ h => h.1)); replace BK763 := kd_ BK763 #[.slice Ao12 t753.length co12, .slice Ao17 t756.length co17, .slice Ao18 t759.length co18] hk NB763_752; replace HB := ak (hb); replace HI752 := ak (hi); clear hb; (try clear hk); (try clear hi)))
  replace HO755 := ak (Kd.R_drew HO755.out)
  replace HO758 := ak (Kd.R_drew HO758.out)
  replace HO761 := ak (Kd.R_drew HO761.out)
  replace BK748 := ak (blk_drew BK748.out)
  replace BK749 := ak (blk_drew BK749.out)
  replace BK763 := ak (blk_drew BK763.out)
  replace HI752 := ak (IsS109.drew HI752.out)
  replace HB := ak (below_drew1 HB.out)
  refine start_ (n := 5) (S := fun w' => w'.cell? ⟨gb763, 0, none⟩ = some (.slice Ao12 t753.length co12) ∧ w'.cell? ⟨gb763, 1, none⟩ = some (.slice Ao17 t756.length co17) ∧ w'.cell? ⟨gb763, 2, none⟩ = some (.slice Ao18 t759.length co18)) (ds := []) #[false, false, false, false, false] (by kernel_rfl) rfl rfl ⟨(blk_cell BK763.out 0).trans rfl, (blk_cell BK763.out 1).trans rfl, (blk_cell BK763.out 2).trans rfl⟩ (fun hHeld => ?_)
  generalize w19.drew = w20 at HO755 HO758 HO761 BK748 BK749 BK763 HI752 HB hHeld ⊢
  refine pure_ (i := 1) (N := some 14) (v := ?_) (a' := ?_) #[false, true, false, false, false] rfl rfl (by kernel_rfl) (fun _ _ _ h => h) (Or.inl ⟨by rfl, ?_⟩) ?_ ?_
  rotate_left
  ·
   intro w'
   go_simp
   with_reducible rfl
  rotate_left
  ·
   simp only [Act.put, l_a, l_b, l_c, i64_w, i32_w]
   rfl
  refine take_ (i := 0) (N := some 13) (v := ?_) (a' := ?_) #[true, true, false, false, false] rfl rfl (by kernel_rfl) (fun _ _ _ h => h) (Or.inl ⟨by rfl, ?_⟩) hHeld ?_ ?_
  rotate_left
  ·
   rintro w' ⟨s0, s1, s2⟩
   go_simp
   with_reducible rfl
  rotate_left
  ·
   simp only [Act.put, l_a, l_b, l_c, i64_w, i32_w]
   rfl
  refine one_ (i := 2) (N := some 15) #[true, true, true, false, false] rfl rfl (by kernel_rfl) (by decide) (fun K hK => ?_)
  refine goes_ Tryz.func56 (by kernel_rfl) rfl #[.pointer (some ⟨g752, 0, none⟩), .int .i64 3] (by rfl) rfl rfl ma ?_
  with_reducible refine (spec_l8Draw.calls k g752 t750 t765 3 t766 t769 t772 t775 w _ ?side1 ?side2 A6.out).mono ?_
  (case side1 => exact is_)
  (case side2 => exact bi_)
  rintro e w21 ⟨v767, v770, v773, rfl, ho0, ho1, ho2, hi, hb, hk⟩
  refine ⟨_, rfl, ?_⟩
  have HO768 := ak (Kd.R_lower (Kd.R_new' ho0 (Kd.R_lt (ur HO755.out))) (below_size bi_))
  have HO771 := ak (Kd.R_lower (Kd.R_new' ho1 (Kd.R_lt (ur HO758.out))) (below_size bi_))
  have HO774 := ak (Kd.R_lower (Kd.R_newB (Kd.R_newB (Kd.R_newB (Kd.R_new' (Kd.R_new' (Kd.R_new' ho2 (Kd.R_lt (ur HO755.out))) (Kd.R_lt (ur HO758.out))) (Kd.R_lt (ur HO761.out))) (g := gb748) (o := .cells #[.slice none 0 0, .slice none 0 0, .slice none 0 0] 28 (0, 0)) (ub BK748.out)) (g := gb749) (o := .cells #[.slice none 0 0, .slice none 0 0, .slice none 0 0] 28 (0, 0)) (ub BK749.out)) (g := gb763) (o := .cells #[.slice Ao12 t753.length co12, .slice Ao17 t756.length co17, .slice Ao18 t759.length co18] 28 (0, 0)) (ub BK763.out)) (below_size bi_))
  replace BK748 := kc BK748 hk NB748_752
  replace BK749 := kc BK749 hk NB749_752
  replace HO755 := kj HO755 hk ho0
  replace HO758 := kj HO758 hk ho1
  replace HO761 := ak (Kd.R_mono (Kd.R_told (Kd.R_told (Kd.R_told (Kd.R_oldK (IsS109.apart (show IsS109 w _ g752 t750 t765 from is_) (ur HO761.out) (by decide)) hk) (Kd.R_base ho0)) (Kd.R_base ho1)) (Kd.R_base ho2)) (fun _ h_ => h_.1))
  replace BK763 := kc BK763 hk NB763_752
  replace HB := ak (hb)
  replace HI752 := ak (hi)
  try clear hb
  try clear hk
  try clear hi
  try clear ho0
  try clear ho1
  try clear ho2
  obtain ⟨Ao25, co25, eo25⟩ := Kd.R_slice HO768.out
  (first | subst eo25 | (injection eo25 with f1_ f2_ f3_; have f4_ := f1_.symm; have f5_ := f3_.symm; clear f1_ f2_ f3_; subst f4_; subst f5_))
  obtain ⟨Ao27, co27, eo27⟩ := Kd.R_slice HO771.out
  (first | subst eo27 | (injection eo27 with f1_ f2_ f3_; have f4_ := f1_.symm; have f5_ := f3_.symm; clear f1_ f2_ f3_; subst f4_; subst f5_))
  obtain ⟨Ao29, co29, eo29⟩ := Kd.R_slice HO774.out
  (first | subst eo29 | (injection eo29 with f1_ f2_ f3_; have f4_ := f1_.symm; have f5_ := f3_.symm; clear f1_ f2_ f3_; subst f4_; subst f5_))
  refine hK.out _ _ sx (fun hHeld => ?_)
  clear hK K
  refine nrm ?_
  refine one_ (i := 3) (N := none) #[true, true, true, true, false] rfl rfl (by kernel_rfl) (by decide) (fun K hK => ?_)
  have hs22 : w21.cell? ⟨gb748, 0, none⟩ = some (.slice none 0 0) := (blk_cell BK748.out 0).trans rfl
  have hfs22 := blk_frozen BK748.out 0
  have hns22_1 := NB749_748.out
  have hns22_2 := NB763_748.out
  have hms22_1 := NB748_749.out
  have hms22_2 := NB748_763.out
  have hs23 : w21.cell? ⟨gb748, 1, none⟩ = some (.slice none 0 0) := (blk_cell BK748.out 1).trans rfl
  have hfs23 := blk_frozen BK748.out 1
  have hns23_1 := NB749_748.out
  have hns23_2 := NB763_748.out
  have hms23_1 := NB748_749.out
  have hms23_2 := NB748_763.out
  have hs24 : w21.cell? ⟨gb748, 2, none⟩ = some (.slice none 0 0) := (blk_cell BK748.out 2).trans rfl
  have hfs24 := blk_frozen BK748.out 2
  have hns24_1 := NB749_748.out
  have hns24_2 := NB763_748.out
  have hms24_1 := NB748_749.out
  have hms24_2 := NB748_763.out
  refine skip_ (w1 := ?_) (by rfl) rfl ?_ ?_
  rotate_left
  ·
   go_simp
   rfl
  refine hK.out _ _ ⟨((cell_far (p := ⟨gb748, _, none⟩) NB763_748.out _).trans (((cell_far (p := ⟨gb748, _, none⟩) NB763_748.out _).trans (((cell_far (p := ⟨gb748, _, none⟩) NB763_748.out _).trans (hHeld.1)))))), ((cell_far (p := ⟨gb748, _, none⟩) NB763_748.out _).trans (((cell_far (p := ⟨gb748, _, none⟩) NB763_748.out _).trans (((cell_far (p := ⟨gb748, _, none⟩) NB763_748.out _).trans (hHeld.2.1)))))), ((cell_far (p := ⟨gb748, _, none⟩) NB763_748.out _).trans (((cell_far (p := ⟨gb748, _, none⟩) NB763_748.out _).trans (((cell_far (p := ⟨gb748, _, none⟩) NB763_748.out _).trans (hHeld.2.2))))))⟩ (fun hHeld => ?_)
  clear hK K
  refine one_ (i := 4) (N := none) #[true, true, true, true, true] rfl rfl (by kernel_rfl) (by decide) (fun K hK => ?_)
  have hs26 : w21.cell? ⟨gb749, 0, none⟩ = some (.slice none 0 0) := (blk_cell BK749.out 0).trans rfl
  have hfs26 := blk_frozen BK749.out 0
  have hns26_0 := NB748_749.out
  have hns26_2 := NB763_749.out
  have hms26_0 := NB749_748.out
  have hms26_2 := NB749_763.out
  have hs28 : w21.cell? ⟨gb749, 1, none⟩ = some (.slice none 0 0) := (blk_cell BK749.out 1).trans rfl
  have hfs28 := blk_frozen BK749.out 1
  have hns28_0 := NB748_749.out
  have hns28_2 := NB763_749.out
  have hms28_0 := NB749_748.out
  have hms28_2 := NB749_763.out
  have hs30 : w21.cell? ⟨gb749, 2, none⟩ = some (.slice none 0 0) := (blk_cell BK749.out 2).trans rfl
  have hfs30 := blk_frozen BK749.out 2
  have hns30_0 := NB748_749.out
  have hns30_2 := NB763_749.out
  have hms30_0 := NB749_748.out
  have hms30_2 := NB749_763.out
  refine skip_ (w1 := ?_) (by rfl) rfl ?_ ?_
  rotate_left
  ·
   go_simp
   rfl
  refine hK.out _ _ ⟨((cell_far (p := ⟨gb749, _, none⟩) NB763_749.out _).trans (((cell_far (p := ⟨gb749, _, none⟩) NB763_749.out _).trans (((cell_far (p := ⟨gb749, _, none⟩) NB763_749.out _).trans (hHeld.1)))))), ((cell_far (p := ⟨gb749, _, none⟩) NB763_749.out _).trans (((cell_far (p := ⟨gb749, _, none⟩) NB763_749.out _).trans (((cell_far (p := ⟨gb749, _, none⟩) NB763_749.out _).trans (hHeld.2.1)))))), ((cell_far (p := ⟨gb749, _, none⟩) NB763_749.out _).trans (((cell_far (p := ⟨gb749, _, none⟩) NB763_749.out _).trans (((cell_far (p := ⟨gb749, _, none⟩) NB763_749.out _).trans (hHeld.2.2))))))⟩ (fun hHeld => ?_)
  clear hK K
  refine done_ (by kernel_rfl) ?_
  try go_wp2
  refine bodyPost_ret (results_cc rfl _ _ gb748 gb749 28 28 #[.slice Ao12 t753.length co12, .slice Ao17 t756.length co17, .slice Ao18 t759.length co18] #[.slice Ao25 t766.length co25, .slice Ao27 t769.length co27, .slice Ao29 t772.length co29] (0, 0) (0, 0) _ _ rfl bq Tryz.underlying28 rfl (by kernel_rfl) rfl bq Tryz.underlying28 rfl (by kernel_rfl)) rfl ?_
  exact ⟨_, _, _, _, _, _, er, rr, rr, rr, rr, rr, rr, bi_⟩
 ·
  replace H := bd H
  obtain ⟨⟨t776, t779, t782, t785⟩, A31, H⟩ := H
  (try dsimp only at H)
  replace H := bd H
  obtain ⟨⟨t786, t789, t792, t795⟩, A32, H⟩ := H
  (try dsimp only at H)
  simp only [Option.some.injEq, Prod.mk.injEq] at H
  obtain ⟨rfl, rfl, rfl, rfl, rfl, rfl⟩ := H
  go_enter Tryz.func27, Tryz.ntmps27
  try go_wp2_with (first | (refine bX HB 2 #[.slice none 0 0, .slice none 0 0, .slice none 0 0] 28 ?_; intro gb748 w33 BK748 GW748 hb; replace HB := bs HB hb; clear hb) | (refine bY HB 3 #[.slice none 0 0, .slice none 0 0, .slice none 0 0] 28 ?_; intro gb749 w34 BK749 GW749 hg hb; have NB748_749 := nl_ BK748 hg; have NB749_748 := ng_ BK748 hg; replace BK748 := kb BK748 hb; replace HB := bz HB hb; clear hb hg) | (refine gL 55 7 Tryz.func55 #[.slice A0 l0.length c0] ?_; (with_reducible refine (spec_l13Open.calls w ?side1 HR0.out HC0.out A2.out).mono ?_); (case side1 => exact bi_); rintro e w35 ⟨g752, rfl, hi, hb, hb2⟩; refine ⟨_, rfl, ?_⟩; have HI752 := ak (hi); have NB752_748 := ak (IsS109.ne_blk hi (blk_below (ub BK748.out) hb2) (by decide)); have NB748_752 := ak (Ne.symm (IsS109.ne_blk hi (blk_below (ub BK748.out) hb2) (by decide))); have NB752_749 := ak (IsS109.ne_blk hi (blk_below (ub BK749.out) hb2) (by decide)); have NB749_752 := ak (Ne.symm (IsS109.ne_blk hi (blk_below (ub BK749.out) hb2) (by decide))); replace BK748 := kb BK748 hb2; replace BK749 := kb BK749 hb2; replace HB := ak (hb); clear hb; (try clear hb2); (try clear hi)) | (refine gL 56 9 Tryz.func56 #[.pointer (some ⟨g752, 0, none⟩), .int .i64 3] ?_; (with_reducible refine (spec_l8Draw.calls k g752 t750 t751 3 t753 t756 t759 t762 w _ ?side1 ?side2 A3.out).mono ?_); (case side1 => exact is_); (case side2 => exact bi_); rintro e w36 ⟨v754, v757, v760, rfl, ho0, ho1, ho2, hi, hb, hk⟩; refine ⟨_, rfl, ?_⟩; have HO755 := ak (Kd.R_lower ho0 (below_size bi_)); have HO758 := ak (Kd.R_lower ho1 (below_size bi_)); have HO761 := ak (Kd.R_lower (Kd.R_newB (Kd.R_newB ho2 (g := gb748) (o := .cells #[.slice none 0 0, .slice none 0 0, .slice none 0 0] 28 (0, 0)) (ub BK748.out)) (g := gb749) (o := .cells #[.slice none 0 0, .slice none 0 0, .slice none 0 0] 28 (0, 0)) (ub BK749.out)) (below_size bi_)); replace BK748 := kc BK748 hk NB748_752; replace BK749 := kc BK749 hk NB749_752; replace HB := ak (hb); replace HI752 := ak (hi); clear hb; (try clear hk); (try clear hi); (try clear ho0); (try clear ho1); (try clear ho2)) | (refine bE 5 #[.slice none 0 0, .slice none 0 0, .slice none 0 0] 28 ?_; intro gb763 hg w37 hbox hb; have BK763 := ak (hbox); have GW763 := ak ((by rw [hg]; exact (below_size bi_) : w.heap.size ≤ gb763)); have GE763 := ak ((by rw [hg]; exact (below_size bi_) : w.heap.size ≤ gb763)); have NB748_763 := ak ((by rw [hg]; exact Nat.ne_of_lt (blk_lt (ub BK748.out)) : gb748 ≠ gb763)); have NB763_748 := ak ((by rw [hg]; exact Nat.ne_of_gt (blk_lt (ub BK748.out)) : gb763 ≠ gb748)); have NB749_763 := ak ((by rw [hg]; exact Nat.ne_of_lt (blk_lt (ub BK749.out)) : gb749 ≠ gb763)); have NB763_749 := ak ((by rw [hg]; exact Nat.ne_of_gt (blk_lt (ub BK749.out)) : gb763 ≠ gb749)); have NB752_763 := ak ((by rw [hg]; exact Nat.ne_of_lt (IsS109.lt (show IsS109 w _ g752 t750 t762 from is_)) : g752 ≠ gb763)); have NB763_752 := ak ((by rw [hg]; exact Nat.ne_of_gt (IsS109.lt (show IsS109 w _ g752 t750 t762 from is_)) : gb763 ≠ g752)); replace HO755 := rb HO755 hb; replace HO758 := rb HO758 hb; replace HO761 := ak (Kd.R_below (Kd.R_elderB (ur HO761.out) gb763 (Nat.le_of_eq hg.symm)) hb); replace BK748 := kb BK748 hb; replace BK749 := kb BK749 hb; replace HB := ak (below_step bi_ hb); replace HI752 := ak (IsS109.below is_ hb); clear hb hbox hg; obtain ⟨Ao38, co38, eo38⟩ := Kd.R_slice HO755.out; subst eo38; have hnb39 := NB763_748.out; have hnc39 := NB748_763.out; have hnb40 := NB763_749.out; have hnc40 := NB749_763.out; have hnb41 := NB763_752.out; have hnc41 := NB752_763.out; have z42 := cz3 BK763.out; obtain ⟨Ao43, co43, eo43⟩ := Kd.R_slice HO758.out; subst eo43; obtain ⟨Ao44, co44, eo44⟩ := Kd.R_slice HO761.out; subst eo44) | (refine gL 57 11 Tryz.func57 #[.pointer (some ⟨g752, 0, none⟩), .int .i64 3] ?_; (with_reducible refine (spec_l13Rd_pick.calls w ?side1 ?side2 A4.out).mono ?_); (case side1 => exact is_); (case side2 => exact bi_); rintro e w45 ⟨rfl, hi, hb, hk⟩; refine ⟨_, rfl, ?_⟩; replace BK748 := kd_ BK748 #[.slice none 0 0, .slice none 0 0, .slice none 0 0] hk NB748_752; replace BK749 := kd_ BK749 #[.slice none 0 0, .slice none 0 0, .slice none 0 0] hk NB749_752; replace HO755 := ki (w0 := w) (f0 := t750) (f1 := t762) HO755 hk; replace HO758 := ki (w0 := w) (f0 := t750) (f1 := t762) HO758 hk; replace HO761 := ak (Kd.R_mono (Kd.R_keep (IsS109.apart (show IsS109 w _ g752 t750 t762 from is_) (ur (Kd.R_mono (Kd.R_far (p := ⟨gb763, 2, none⟩) (Kd.R_far (p := ⟨gb763, 1, none⟩) (Kd.R_far (p := ⟨gb763, 0, none⟩) (Kd.R_mono HO761.out (fun k_ hk => (⟨hk, hk.2⟩ : _ ∧ k_ ≠ gb763))) (fun _ hk => hk.2) (.slice Ao38 t753.length co38)) (fun _ hk => hk.2) (.slice Ao43 t756.length co43)) (fun _ hk => hk.2) (.slice Ao44 t759.length co44)) (fun _ h_ => h_.1))) (by decide)) hk (fun _ h => h.2)) (fun _ h => h.1)); replace BK763 := kd_ BK763 #[.slice Ao38 t753.length co38, .slice Ao43 t756.length co43, .slice Ao44 t759.length co44] hk NB763_752; replace HB := ak (hb); replace HI752 := ak (hi); clear hb; (try clear hk); (try clear hi)))
  replace HO755 := ak (Kd.R_drew HO755.out)
  replace HO758 := ak (Kd.R_drew HO758.out)
  replace HO761 := ak (Kd.R_drew HO761.out)
  replace BK748 := ak (blk_drew BK748.out)
  replace BK749 := ak (blk_drew BK749.out)
  replace BK763 := ak (blk_drew BK763.out)
  replace HI752 := ak (IsS109.drew HI752.out)
  replace HB := ak (below_drew1 HB.out)
  refine ro [4, 5, 6, 7] [1, 2, 0, 3, 4, 5, 6, 7] (fun w' => w'.cell? ⟨gb763, 0, none⟩ = some (.slice Ao38 t753.length co38) ∧ w'.cell? ⟨gb763, 1, none⟩ = some (.slice Ao43 t756.length co43) ∧ w'.cell? ⟨gb763, 2, none⟩ = some (.slice Ao44 t759.length co44)) ⟨(blk_cell BK763.out 0).trans rfl, (blk_cell BK763.out 1).trans rfl, (blk_cell BK763.out 2).trans rfl⟩ ?_
  generalize w45.drew = w46 at HO755 HO758 HO761 BK748 BK749 BK763 HI752 HB ⊢
  repeat refine lo_ ?_
  refine ld (N := some 20) (gk.trans rfl) rfl rfl (fun K hK => ?_)
  refine goes_ Tryz.func68 (by kernel_rfl) rfl #[.pointer (some ⟨g752, 0, none⟩), .agg #[.slice Ao38 t753.length co38, .slice Ao43 t756.length co43, .slice Ao44 t759.length co44]] (by rfl) rfl rfl ma ?_
  with_reducible refine (spec_l8Wrong.calls w ?side1 ?side2 ?side3 ?side4 ?side5 ?side6 ?side7 ?side8 ?side9 A31.out).mono ?_
  (case side1 => exact is_)
  (case side2 => exact bi_)
  (case side3 => exact Kd.C_foot_own (IsS109.apart (show IsS109 w _ g752 t750 t765 from is_) (ur HO755.out) (by decide)) (fun _ h_ => h_.2))
  (case side4 => exact (Kd.R_reads' HO755.out).2.1)
  (case side5 => repeat (first | exact (Kd.R_reads' HO758.out).2.2 | (with_reducible refine Kd.C_alloc ?_ _) | (with_reducible refine Kd.C_drewN ?_ _) | (with_reducible refine Kd.C_drew ?_)))
  (case side6 => exact (Kd.R_reads' HO758.out).2.1)
  (case side7 => exact far_slice (IsS109.own_ne HI752.out HO758.out (by decide)))
  (case side8 => exact Kd.C_foot_own (IsS109.apart (show IsS109 w _ g752 t750 t765 from is_) (ur HO761.out) (by decide)) (fun _ h_ => h_.2))
  (case side9 => exact (Kd.R_reads' HO761.out).2.1)
  rintro e w47 ⟨v777, v780, v783, rfl, ho0, ho1, ho2, hi, hb, hk⟩
  refine ⟨_, rfl, ?_⟩
  have HO778 := ak (Kd.R_lower (Kd.R_new' ho0 (Kd.R_lt (ur HO755.out))) (below_size bi_))
  have HO781 := ak (Kd.R_lower (Kd.R_new' ho1 (Kd.R_lt (ur HO758.out))) (below_size bi_))
  have HO784 := ak (Kd.R_lower (Kd.R_newB (Kd.R_newB (Kd.R_newB (Kd.R_new' (Kd.R_new' (Kd.R_new' ho2 (Kd.R_lt (ur HO755.out))) (Kd.R_lt (ur HO758.out))) (Kd.R_lt (ur HO761.out))) (g := gb748) (o := .cells #[.slice none 0 0, .slice none 0 0, .slice none 0 0] 28 (0, 0)) (ub BK748.out)) (g := gb749) (o := .cells #[.slice none 0 0, .slice none 0 0, .slice none 0 0] 28 (0, 0)) (ub BK749.out)) (g := gb763) (o := .cells #[.slice Ao38 t753.length co38, .slice Ao43 t756.length co43, .slice Ao44 t759.length co44] 28 (0, 0)) (ub BK763.out)) (below_size bi_))
  replace BK748 := kc BK748 hk NB748_752
  replace BK749 := kc BK749 hk NB749_752
  replace HO755 := kj HO755 hk ho0
  replace HO758 := kj HO758 hk ho1
  replace HO761 := ak (Kd.R_mono (Kd.R_told (Kd.R_told (Kd.R_told (Kd.R_oldK (IsS109.apart (show IsS109 w _ g752 t750 t765 from is_) (ur HO761.out) (by decide)) hk) (Kd.R_base ho0)) (Kd.R_base ho1)) (Kd.R_base ho2)) (fun _ h_ => h_.1))
  replace BK763 := kc BK763 hk NB763_752
  replace HB := ak (hb)
  replace HI752 := ak (hi)
  try clear hb
  try clear hk
  try clear hi
  try clear ho0
  try clear ho1
  try clear ho2
  obtain ⟨Ao48, co48, eo48⟩ := Kd.R_slice HO778.out
  (first | subst eo48 | (injection eo48 with f1_ f2_ f3_; have f4_ := f1_.symm; have f5_ := f3_.symm; clear f1_ f2_ f3_; subst f4_; subst f5_))
  obtain ⟨Ao49, co49, eo49⟩ := Kd.R_slice HO781.out
  (first | subst eo49 | (injection eo49 with f1_ f2_ f3_; have f4_ := f1_.symm; have f5_ := f3_.symm; clear f1_ f2_ f3_; subst f4_; subst f5_))
  obtain ⟨Ao50, co50, eo50⟩ := Kd.R_slice HO784.out
  (first | subst eo50 | (injection eo50 with f1_ f2_ f3_; have f4_ := f1_.symm; have f5_ := f3_.symm; clear f1_ f2_ f3_; subst f4_; subst f5_))
  refine hK.out _ _ ⟨(blk_cell BK763.out 0).trans rfl, (blk_cell BK763.out 1).trans rfl, (blk_cell BK763.out 2).trans rfl⟩ ?_
  clear hK K
  refine no (a' := ?_) ?_ ?_
  rotate_left
  ·
   show Act.put _ (some 20) _ = _
   simp only [Act.put, l_a, l_b, l_c, i64_w, i32_w]
   rfl
  refine ld (N := some 21) (gk.trans rfl) rfl rfl (fun K hK => ?_)
  refine goes_ Tryz.func68 (by kernel_rfl) rfl #[.pointer (some ⟨g752, 0, none⟩), .agg #[.slice Ao48 t776.length co48, .slice Ao49 t779.length co49, .slice Ao50 t782.length co50]] (by rfl) rfl rfl ma ?_
  with_reducible refine (spec_l8Wrong.calls w ?side1 ?side2 ?side3 ?side4 ?side5 ?side6 ?side7 ?side8 ?side9 A32.out).mono ?_
  (case side1 => exact is_)
  (case side2 => exact bi_)
  (case side3 => exact Kd.C_foot_own (IsS109.apart (show IsS109 w _ g752 t750 t785 from is_) (ur HO778.out) (by decide)) (fun _ h_ => h_.2))
  (case side4 => exact (Kd.R_reads' HO778.out).2.1)
  (case side5 => repeat (first | exact (Kd.R_reads' HO781.out).2.2 | (with_reducible refine Kd.C_alloc ?_ _) | (with_reducible refine Kd.C_drewN ?_ _) | (with_reducible refine Kd.C_drew ?_)))
  (case side6 => exact (Kd.R_reads' HO781.out).2.1)
  (case side7 => exact far_slice (IsS109.own_ne HI752.out HO781.out (by decide)))
  (case side8 => exact Kd.C_foot_own (IsS109.apart (show IsS109 w _ g752 t750 t785 from is_) (ur HO784.out) (by decide)) (fun _ h_ => h_.2))
  (case side9 => exact (Kd.R_reads' HO784.out).2.1)
  rintro e w51 ⟨v787, v790, v793, rfl, ho0, ho1, ho2, hi, hb, hk⟩
  refine ⟨_, rfl, ?_⟩
  have HO788 := ak (Kd.R_lower (Kd.R_new' (Kd.R_new' ho0 (Kd.R_lt (ur HO755.out))) (Kd.R_lt (ur HO778.out))) (below_size bi_))
  have HO791 := ak (Kd.R_lower (Kd.R_new' (Kd.R_new' ho1 (Kd.R_lt (ur HO758.out))) (Kd.R_lt (ur HO781.out))) (below_size bi_))
  have HO794 := ak (Kd.R_lower (Kd.R_newB (Kd.R_newB (Kd.R_newB (Kd.R_new' (Kd.R_new' (Kd.R_new' (Kd.R_new' (Kd.R_new' (Kd.R_new' ho2 (Kd.R_lt (ur HO755.out))) (Kd.R_lt (ur HO758.out))) (Kd.R_lt (ur HO761.out))) (Kd.R_lt (ur HO778.out))) (Kd.R_lt (ur HO781.out))) (Kd.R_lt (ur HO784.out))) (g := gb748) (o := .cells #[.slice none 0 0, .slice none 0 0, .slice none 0 0] 28 (0, 0)) (ub BK748.out)) (g := gb749) (o := .cells #[.slice none 0 0, .slice none 0 0, .slice none 0 0] 28 (0, 0)) (ub BK749.out)) (g := gb763) (o := .cells #[.slice Ao38 t753.length co38, .slice Ao43 t756.length co43, .slice Ao44 t759.length co44] 28 (0, 0)) (ub BK763.out)) (below_size bi_))
  replace BK748 := kc BK748 hk NB748_752
  replace BK749 := kc BK749 hk NB749_752
  replace HO755 := kj HO755 hk ho0
  replace HO758 := kj HO758 hk ho1
  replace HO761 := ak (Kd.R_mono (Kd.R_told (Kd.R_told (Kd.R_told (Kd.R_oldK (IsS109.apart (show IsS109 w _ g752 t750 t785 from is_) (ur HO761.out) (by decide)) hk) (Kd.R_base ho0)) (Kd.R_base ho1)) (Kd.R_base ho2)) (fun _ h_ => h_.1))
  replace BK763 := kc BK763 hk NB763_752
  replace HO778 := kj HO778 hk ho0
  replace HO781 := kj HO781 hk ho1
  replace HO784 := ak (Kd.R_mono (Kd.R_told (Kd.R_told (Kd.R_told (Kd.R_oldK (IsS109.apart (show IsS109 w _ g752 t750 t785 from is_) (ur HO784.out) (by decide)) hk) (Kd.R_base ho0)) (Kd.R_base ho1)) (Kd.R_base ho2)) (fun _ h_ => h_.1))
  replace HB := ak (hb)
  replace HI752 := ak (hi)
  try clear hb
  try clear hk
  try clear hi
  try clear ho0
  try clear ho1
  try clear ho2
  obtain ⟨Ao55, co55, eo55⟩ := Kd.R_slice HO788.out
  (first | subst eo55 | (injection eo55 with f1_ f2_ f3_; have f4_ := f1_.symm; have f5_ := f3_.symm; clear f1_ f2_ f3_; subst f4_; subst f5_))
  obtain ⟨Ao57, co57, eo57⟩ := Kd.R_slice HO791.out
  (first | subst eo57 | (injection eo57 with f1_ f2_ f3_; have f4_ := f1_.symm; have f5_ := f3_.symm; clear f1_ f2_ f3_; subst f4_; subst f5_))
  obtain ⟨Ao59, co59, eo59⟩ := Kd.R_slice HO794.out
  (first | subst eo59 | (injection eo59 with f1_ f2_ f3_; have f4_ := f1_.symm; have f5_ := f3_.symm; clear f1_ f2_ f3_; subst f4_; subst f5_))
  refine hK.out _ _ ⟨(blk_cell BK763.out 0).trans rfl, (blk_cell BK763.out 1).trans rfl, (blk_cell BK763.out 2).trans rfl⟩ ?_
  clear hK K
  refine no (a' := ?_) ?_ ?_
  rotate_left
  ·
   show Act.put _ (some 21) _ = _
   simp only [Act.put, l_a, l_b, l_c, i64_w, i32_w]
   rfl
  refine ld (N := none) (gk.trans rfl) rfl rfl (fun K hK => ?_)
  have hs52 : w51.cell? ⟨gb748, 0, none⟩ = some (.slice none 0 0) := (blk_cell BK748.out 0).trans rfl
  have hfs52 := blk_frozen BK748.out 0
  have hns52_1 := NB749_748.out
  have hns52_2 := NB763_748.out
  have hms52_1 := NB748_749.out
  have hms52_2 := NB748_763.out
  have hs53 : w51.cell? ⟨gb748, 1, none⟩ = some (.slice none 0 0) := (blk_cell BK748.out 1).trans rfl
  have hfs53 := blk_frozen BK748.out 1
  have hns53_1 := NB749_748.out
  have hns53_2 := NB763_748.out
  have hms53_1 := NB748_749.out
  have hms53_2 := NB748_763.out
  have hs54 : w51.cell? ⟨gb748, 2, none⟩ = some (.slice none 0 0) := (blk_cell BK748.out 2).trans rfl
  have hfs54 := blk_frozen BK748.out 2
  have hns54_1 := NB749_748.out
  have hns54_2 := NB763_748.out
  have hms54_1 := NB748_749.out
  have hms54_2 := NB748_763.out
  refine skip_ (w1 := ?_) (by rfl) rfl ?_ ?_
  rotate_left
  ·
   go_simp
   rfl
  refine hK.out _ _ ⟨((cell_far (p := ⟨gb748, _, none⟩) NB763_748.out _).trans (((cell_far (p := ⟨gb748, _, none⟩) NB763_748.out _).trans (((cell_far (p := ⟨gb748, _, none⟩) NB763_748.out _).trans ((blk_cell BK763.out 0).trans rfl)))))), ((cell_far (p := ⟨gb748, _, none⟩) NB763_748.out _).trans (((cell_far (p := ⟨gb748, _, none⟩) NB763_748.out _).trans (((cell_far (p := ⟨gb748, _, none⟩) NB763_748.out _).trans ((blk_cell BK763.out 1).trans rfl)))))), ((cell_far (p := ⟨gb748, _, none⟩) NB763_748.out _).trans (((cell_far (p := ⟨gb748, _, none⟩) NB763_748.out _).trans (((cell_far (p := ⟨gb748, _, none⟩) NB763_748.out _).trans ((blk_cell BK763.out 2).trans rfl))))))⟩ ?_
  clear hK K
  refine ld (N := none) (gk.trans rfl) rfl rfl (fun K hK => ?_)
  have hs56 : w51.cell? ⟨gb749, 0, none⟩ = some (.slice none 0 0) := (blk_cell BK749.out 0).trans rfl
  have hfs56 := blk_frozen BK749.out 0
  have hns56_0 := NB748_749.out
  have hns56_2 := NB763_749.out
  have hms56_0 := NB749_748.out
  have hms56_2 := NB749_763.out
  have hs58 : w51.cell? ⟨gb749, 1, none⟩ = some (.slice none 0 0) := (blk_cell BK749.out 1).trans rfl
  have hfs58 := blk_frozen BK749.out 1
  have hns58_0 := NB748_749.out
  have hns58_2 := NB763_749.out
  have hms58_0 := NB749_748.out
  have hms58_2 := NB749_763.out
  have hs60 : w51.cell? ⟨gb749, 2, none⟩ = some (.slice none 0 0) := (blk_cell BK749.out 2).trans rfl
  have hfs60 := blk_frozen BK749.out 2
  have hns60_0 := NB748_749.out
  have hns60_2 := NB763_749.out
  have hms60_0 := NB749_748.out
  have hms60_2 := NB749_763.out
  refine skip_ (w1 := ?_) (by rfl) rfl ?_ ?_
  rotate_left
  ·
   go_simp
   rfl
  refine hK.out _ _ ⟨((cell_far (p := ⟨gb749, _, none⟩) NB763_749.out _).trans (((cell_far (p := ⟨gb749, _, none⟩) NB763_749.out _).trans (((cell_far (p := ⟨gb749, _, none⟩) NB763_749.out _).trans ((cell_far (p := ⟨gb748, _, none⟩) NB763_748.out _).trans ((cell_far (p := ⟨gb748, _, none⟩) NB763_748.out _).trans ((cell_far (p := ⟨gb748, _, none⟩) NB763_748.out _).trans ((blk_cell BK763.out 0).trans rfl))))))))), ((cell_far (p := ⟨gb749, _, none⟩) NB763_749.out _).trans (((cell_far (p := ⟨gb749, _, none⟩) NB763_749.out _).trans (((cell_far (p := ⟨gb749, _, none⟩) NB763_749.out _).trans ((cell_far (p := ⟨gb748, _, none⟩) NB763_748.out _).trans ((cell_far (p := ⟨gb748, _, none⟩) NB763_748.out _).trans ((cell_far (p := ⟨gb748, _, none⟩) NB763_748.out _).trans ((blk_cell BK763.out 1).trans rfl))))))))), ((cell_far (p := ⟨gb749, _, none⟩) NB763_749.out _).trans (((cell_far (p := ⟨gb749, _, none⟩) NB763_749.out _).trans (((cell_far (p := ⟨gb749, _, none⟩) NB763_749.out _).trans ((cell_far (p := ⟨gb748, _, none⟩) NB763_748.out _).trans ((cell_far (p := ⟨gb748, _, none⟩) NB763_748.out _).trans ((cell_far (p := ⟨gb748, _, none⟩) NB763_748.out _).trans ((blk_cell BK763.out 2).trans rfl)))))))))⟩ ?_
  clear hK K
  refine on ?_
  try go_wp2
  refine bodyPost_ret (results_cc rfl _ _ gb748 gb749 28 28 #[.slice Ao38 t753.length co38, .slice Ao43 t756.length co43, .slice Ao44 t759.length co44] #[.slice Ao55 t786.length co55, .slice Ao57 t789.length co57, .slice Ao59 t792.length co59] (0, 0) (0, 0) _ _ rfl bq Tryz.underlying28 rfl (by kernel_rfl) rfl bq Tryz.underlying28 rfl (by kernel_rfl)) rfl ?_
  exact ⟨_, _, _, _, _, _, er, rr, rr, rr, rr, rr, rr, bi_⟩
def spec_FieldsSame.l0 : Nat → List (S69) → List (S69) → Int → Option (Bool)
 | 0, _, _, _ => none
 | k + 1, x0, x1, x5 => if x5 < (x0.length : Int) then (if 0 ≤ x5 then (if x5 < (x1.length : Int) then (if (!((((rd_T69 x0 x5).f0).toList) == (((rd_T69 x1 x5).f0).toList)) || (!((((rd_T69 x0 x5).f1).toList) == (((rd_T69 x1 x5).f1).toList)))) = true then (some false) else (spec_FieldsSame.l0 k x0 x1 (wrap64 (x5 + 1)))) else (none)) else (none)) else (some true)
def spec_FieldsSame.f (k : Nat) (l0 : List (S69)) (l1 : List (S69)) : Option (Bool) := if (l0.length : Int) = (l1.length : Int) then (spec_FieldsSame.l0 k l0 l1 0) else (some false)
theorem spec_FieldsSame.calls {k c0 c1 : Nat} {A0 A1 : Option Addr} {l0 l1 : List (S69)} {r : Bool} {w : World} (hr0 : Kd.C k69 w A0 l0.length l0) (hc0 : l0.length ≤ c0) (hr1 : Kd.C k69 w A1 l1.length l1) (hc1 : l1.length ≤ c1) (h : spec_FieldsSame.f k l0 l1 = some r) :
  Calls Tryz.prog 111 #[.slice A0 l0.length c0, .slice A1 l1.length c1] w fun e w' => e = .returned (.bool r) ∧ Drawn0 w w' := by
 have hu69 := Tryz.underlying69
 have HR0 := ak hr0
 have HC0 := ak hc0
 clear hr0 hc0
 have HR1 := ak hr1
 have HC1 := ak hc1
 clear hr1 hc1
 have H : (if (l0.length : Int) = (l1.length : Int) then (spec_FieldsSame.l0 k l0 l1 0) else (some false)) = some r := h
 clear h
 replace H := sp H
 rcases H with ⟨c3, H⟩ | ⟨c3, H⟩
 ·
  have c3b0 := beq_iff_eq.mpr c3
  have c3b1 := bne_eq_false_iff_eq.mpr c3
  have c3b2 : (l0.length == l1.length) = true := by first | simpa using c3 | (simp at c3 ⊢; omega)
  clear c3
  have H' := ak H; clear H
  go_enter Tryz.func111, Tryz.ntmps111
  go_wp2
  repeat (go_quiet (fail); try go_wp2)
  go_loopg [5] k (fun kq v5 w' => ∃ (x5_1 : Int), v5 = .int .i64 x5_1 ∧ Aside0 (spec_FieldsSame.l0 kq l0 l1 x5_1 = some r) ∧ Aside0 (kq ≤ k) ∧ Drawn0 w w')
  case atStart => exact ⟨_, rs, H', ⟨Nat.le_refl _⟩, dn⟩
  case round =>
   clear H'
   try clear c3
   try clear c3b0
   try clear c3b1
   try clear c3b2
   obtain ⟨x5_1, rfl, HA, HK1, ⟨m1, rfl⟩⟩ := hrel
   cases gk with
   | zero => exact zz HA.out
   | succ k1 =>
    obtain ⟨H⟩ := HA
    simp only [spec_FieldsSame.l0] at H
    replace H := sd H
    rcases H with ⟨c4b0, H⟩ | ⟨c4b0, H⟩
    ·
     replace H := nde H; obtain ⟨c5b0, H⟩ := H; replace H := nde H; obtain ⟨c6b0, H⟩ := H; replace H := sp H
     rcases H with ⟨c7, H⟩ | ⟨c7, H⟩
     ·
      have c7b0 : (!((((rd_T69 l0 x5_1).f0).toList) == (((rd_T69 l1 x5_1).f0).toList)) || (!((((rd_T69 l0 x5_1).f1).toList) == (((rd_T69 l1 x5_1).f1).toList)))) = true := c7
      clear c7
      obtain rfl := s1 H
      have p796 := zi x5_1
      have q796 := zj x5_1 l0.length
      obtain ⟨ad796, e796, hx796_0, hx796_1⟩ := at_T69 HR0.out x5_1 p796 q796
      cases e796
      replace p796 := eq_true p796
      replace q796 := eq_true q796
      have p797 := zi x5_1
      have q797 := zj x5_1 l1.length
      obtain ⟨ad797, e797, hx797_0, hx797_1⟩ := at_T69 HR1.out x5_1 p797 q797
      cases e797
      replace p797 := eq_true p797
      replace q797 := eq_true q797
      go_wp2
      repeat (go_quiet (fail); try go_wp2)
      go_ret
      exact ⟨rs, dn⟩
     ·
      have c7b0 : (!((((rd_T69 l0 x5_1).f0).toList) == (((rd_T69 l1 x5_1).f0).toList)) || (!((((rd_T69 l0 x5_1).f1).toList) == (((rd_T69 l1 x5_1).f1).toList)))) = false := by simpa using c7
      clear c7
      have H' := ak H; clear H
      have p796 := zi x5_1
      have q796 := zj x5_1 l0.length
      obtain ⟨ad796, e796, hx796_0, hx796_1⟩ := at_T69 HR0.out x5_1 p796 q796
      cases e796
      replace p796 := eq_true p796
      replace q796 := eq_true q796
      have p797 := zi x5_1
      have q797 := zj x5_1 l1.length
      obtain ⟨ad797, e797, hx797_0, hx797_1⟩ := at_T69 HR1.out x5_1 p797 q797
      cases e797
      replace p797 := eq_true p797
      replace q797 := eq_true q797
      go_wp2
      repeat (go_quiet (fail); try go_wp2)
      go_roundg k1
      case measure => exact kl
      case rel => exact ⟨_, rs, H', ⟨kl⟩, dn⟩
    ·
     obtain rfl := s1 H
     go_wp2
     repeat (go_quiet (fail); try go_wp2)
     go_ret
     exact ⟨rs, dn⟩
 ·
  have c3b0 := beq_eq_false_iff_ne.mpr c3
  have c3b1 := bne_iff_ne.mpr c3
  have c3b2 : (l0.length == l1.length) = false := by first | simpa using c3 | (simp at c3 ⊢; omega)
  obtain rfl := s1 H
  go_enter Tryz.func111, Tryz.ntmps111
  go_wp2
  repeat (go_quiet (fail); try go_wp2)
  go_ret
  exact ⟨rs, dn⟩
end Go.Proofs.YtncdadcmghglkaaGreatDoor.PFnPartSame
