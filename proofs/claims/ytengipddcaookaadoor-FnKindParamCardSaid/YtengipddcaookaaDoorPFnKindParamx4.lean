/- Written by a program of this session out of the translation: each Go function named below as a Lean function, and the proof that the call answers as that function does; conditions: those in each statement. -/
import Derived.Test.YtengipddcaookaaDoorVFnKindParamYt
import Derived.Test.YtengipddcaookaaDoorPFnKindParamx0
import Derived.Test.YtengipddcaookaaDoorPFnKindParamx2
import Derived.Test.YtengipddcaookaaDoorPFnKindParamx3
-- short
-- dense
namespace Go.Proofs.YtengipddcaookaaDoor.PFnKindParam
open Go.RowKit Go.Proofs.YtengipddcaookaaDoor.X Go.Proofs.YtengipddcaookaaDoorW.PrintWords Go.Proofs.YtengipddcaookaaDoorW.PrintLast Go.Proofs.YtengipddcaookaaDoorW.PrintMore
attribute [local go_sem] max2_int min2_int max_two min_two max_three min_three max_four min_four   -- for this text's walks alone
set_option linter.unusedVariables false
set_option linter.unusedSimpArgs false

/-! ### spec_l7Draw: function 26 -/
def spec_l7Draw.l0 : Nat → Int → List Int → Int → ByteArray → ByteArray → List (S29) → Option (ByteArray × ByteArray × (List (S29)) × Int)
 | 0, _, _, _, _, _, _ => none
 | k + 1, x4, x1000, x1001, x160000, x160001, x160002 => if x4 > 0 then ((spec_l13Rd_of.f k x1000 x1001 (([(⟨#[99, 104, 97, 114, 115, 101, 116]⟩ : ByteArray), (⟨#[98, 111, 117, 110, 100, 97, 114, 121]⟩ : ByteArray), (⟨#[110, 97, 109, 101]⟩ : ByteArray), (⟨#[120]⟩ : ByteArray)] : List ByteArray))).bind fun bt168 => ((spec_l13Rd_of.f k x1000 bt168.2 (([(⟨#[117, 116, 102, 45, 56]⟩ : ByteArray), (⟨#[98, 48]⟩ : ByteArray), (⟨#[97, 32, 98]⟩ : ByteArray), (⟨#[113, 34, 122]⟩ : ByteArray), (⟨#[]⟩ : ByteArray), (⟨#[98, 59, 99]⟩ : ByteArray), (⟨#[120, 121, 122]⟩ : ByteArray)] : List ByteArray))).bind fun bt173 => ((spec_l3Find.f k x160002 bt168.1).bind fun t176 => (if t176 < 0 then (if x160002.length < 4398046511104 then (spec_l7Draw.l0 k (wrap64 (x4 - 1)) x1000 bt173.2 x160000 x160001 (x160002 ++ [(⟨bt168.1, bt173.1⟩ : S29)])) else (none)) else (spec_l7Draw.l0 k (wrap64 (x4 - 1)) x1000 bt173.2 x160000 x160001 x160002))))) else (some (x160000, x160001, x160002, x1001))
def spec_l7Draw.f (k : Nat) (s0_0 : List Int) (s0_1 : Int) : Option (ByteArray × ByteArray × (List (S29)) × Int) := (spec_l13Rd_of.f k s0_0 s0_1 (([(⟨#[116, 101, 120, 116]⟩ : ByteArray), (⟨#[105, 109, 97, 103, 101]⟩ : ByteArray), (⟨#[109, 117, 108, 116, 105, 112, 97, 114, 116]⟩ : ByteArray)] : List ByteArray))).bind fun bt149 => ((spec_l13Rd_of.f k s0_0 bt149.2 (([(⟨#[112, 108, 97, 105, 110]⟩ : ByteArray), (⟨#[104, 116, 109, 108]⟩ : ByteArray), (⟨#[109, 105, 120, 101, 100]⟩ : ByteArray), (⟨#[120, 45, 121]⟩ : ByteArray)] : List ByteArray))).bind fun bt154 => ((spec_l13Rd_num.f k s0_0 bt154.2 (([1, 0, 2, 3] : List Int))).bind fun bt163 => (spec_l7Draw.l0 k bt163.1 s0_0 bt163.2 bt149.1 bt154.1 (([] : List (S29))))))
set_option maxHeartbeats 8000000 in
set_option maxRecDepth 100000 in
theorem spec_l7Draw.calls (k : Nat) (g : Nat) (s0_0 : List Int) (s0_1 : Int) (r1 : ByteArray) (r2 : ByteArray) (r3 : List (S29)) (r4 : Int) (w0 w : World) (hI : IsS62 w0 w g s0_0 s0_1) (hB : Below w0.heap.size w0 w) (h : spec_l7Draw.f k s0_0 s0_1 = some (r1, r2, r3, r4)) :
  Calls Tryd.prog 26 #[.pointer (some ⟨g, 0, none⟩)] w fun e w' => ∃ v2_ : Value, e = .returned (.agg #[.string r1, .string r2, v2_]) ∧ Kd.R k29 29 w' w.heap.size (fun _ => True) v2_ r3 ∧ IsS62 w0 w' g s0_0 r4 ∧ Below w0.heap.size w0 w' ∧ KeepBut w w' g none := by
 have hu25 := Tryd.underlying25
 have hu29 := Tryd.underlying29
 have HI0 := Aside0.mk hI
 have HK := Aside0.mk (KeepBut.refl w g none)
 have HL := Aside0.mk hB.size
 clear hI
 have HW0 := Aside0.mk hB.size
 have HB := Aside0.mk hB
 clear hB
 have H : ((spec_l13Rd_of.f k s0_0 s0_1 (([(⟨#[116, 101, 120, 116]⟩ : ByteArray), (⟨#[105, 109, 97, 103, 101]⟩ : ByteArray), (⟨#[109, 117, 108, 116, 105, 112, 97, 114, 116]⟩ : ByteArray)] : List ByteArray))).bind fun bt149 => ((spec_l13Rd_of.f k s0_0 bt149.2 (([(⟨#[112, 108, 97, 105, 110]⟩ : ByteArray), (⟨#[104, 116, 109, 108]⟩ : ByteArray), (⟨#[109, 105, 120, 101, 100]⟩ : ByteArray), (⟨#[120, 45, 121]⟩ : ByteArray)] : List ByteArray))).bind fun bt154 => ((spec_l13Rd_num.f k s0_0 bt154.2 (([1, 0, 2, 3] : List Int))).bind fun bt163 => (spec_l7Draw.l0 k bt163.1 s0_0 bt163.2 bt149.1 bt154.1 (([] : List (S29))))))) = some (r1, r2, r3, r4) := h
 clear h
 obtain ⟨y146, hy146⟩ : ∃ y_ : List ByteArray, y_ = (([(⟨#[116, 101, 120, 116]⟩ : ByteArray), (⟨#[105, 109, 97, 103, 101]⟩ : ByteArray), (⟨#[109, 117, 108, 116, 105, 112, 97, 114, 116]⟩ : ByteArray)] : List ByteArray)) := ⟨_, rfl⟩
 replace H : ((spec_l13Rd_of.f k s0_0 s0_1 y146).bind fun bt149 => ((spec_l13Rd_of.f k s0_0 bt149.2 (([(⟨#[112, 108, 97, 105, 110]⟩ : ByteArray), (⟨#[104, 116, 109, 108]⟩ : ByteArray), (⟨#[109, 105, 120, 101, 100]⟩ : ByteArray), (⟨#[120, 45, 121]⟩ : ByteArray)] : List ByteArray))).bind fun bt154 => ((spec_l13Rd_num.f k s0_0 bt154.2 (([1, 0, 2, 3] : List Int))).bind fun bt163 => (spec_l7Draw.l0 k bt163.1 s0_0 bt163.2 bt149.1 bt154.1 (([] : List (S29))))))) = some (r1, r2, r3, r4) := by first | (rw [hy146]; with_reducible exact H) | (have H2_ := (Option.bind_some _ _).symm.trans H; rw [hy146]; with_reducible exact H2_) | (have H2_ := (Option.bind_some _ _).symm.trans H; with_reducible exact H2_) | with_reducible exact H | (rw [hy146]; exact H) | exact H
 have Ny146 := Aside0.mk hy146
 clear hy146
 replace H := Option.bind_eq_some_iff.mp H
 obtain ⟨⟨t149, t150⟩, A20, H⟩ := H
 replace H : ((spec_l13Rd_of.f k s0_0 t150 (([(⟨#[112, 108, 97, 105, 110]⟩ : ByteArray), (⟨#[104, 116, 109, 108]⟩ : ByteArray), (⟨#[109, 105, 120, 101, 100]⟩ : ByteArray), (⟨#[120, 45, 121]⟩ : ByteArray)] : List ByteArray))).bind fun bt154 => ((spec_l13Rd_num.f k s0_0 bt154.2 (([1, 0, 2, 3] : List Int))).bind fun bt163 => (spec_l7Draw.l0 k bt163.1 s0_0 bt163.2 t149 bt154.1 (([] : List (S29)))))) = some (r1, r2, r3, r4) := H
 have A2 := Aside0.mk A20
 clear A20
 obtain ⟨y151, hy151⟩ : ∃ y_ : List ByteArray, y_ = (([(⟨#[112, 108, 97, 105, 110]⟩ : ByteArray), (⟨#[104, 116, 109, 108]⟩ : ByteArray), (⟨#[109, 105, 120, 101, 100]⟩ : ByteArray), (⟨#[120, 45, 121]⟩ : ByteArray)] : List ByteArray)) := ⟨_, rfl⟩
 replace H : ((spec_l13Rd_of.f k s0_0 t150 y151).bind fun bt154 => ((spec_l13Rd_num.f k s0_0 bt154.2 (([1, 0, 2, 3] : List Int))).bind fun bt163 => (spec_l7Draw.l0 k bt163.1 s0_0 bt163.2 t149 bt154.1 (([] : List (S29)))))) = some (r1, r2, r3, r4) := by first | (rw [hy151]; with_reducible exact H) | (have H2_ := (Option.bind_some _ _).symm.trans H; rw [hy151]; with_reducible exact H2_) | (have H2_ := (Option.bind_some _ _).symm.trans H; with_reducible exact H2_) | with_reducible exact H | (rw [hy151]; exact H) | exact H
 have Ny151 := Aside0.mk hy151
 clear hy151
 replace H := Option.bind_eq_some_iff.mp H
 obtain ⟨⟨t154, t155⟩, A30, H⟩ := H
 replace H : ((spec_l13Rd_num.f k s0_0 t155 (([1, 0, 2, 3] : List Int))).bind fun bt163 => (spec_l7Draw.l0 k bt163.1 s0_0 bt163.2 t149 t154 (([] : List (S29))))) = some (r1, r2, r3, r4) := H
 have A3 := Aside0.mk A30
 clear A30
 obtain ⟨y156, hy156⟩ : ∃ y_ : List (S29), y_ = (([] : List (S29))) := ⟨_, rfl⟩
 replace H : ((spec_l13Rd_num.f k s0_0 t155 (([1, 0, 2, 3] : List Int))).bind fun bt163 => (spec_l7Draw.l0 k bt163.1 s0_0 bt163.2 t149 t154 y156)) = some (r1, r2, r3, r4) := by first | (rw [hy156]; with_reducible exact H) | (have H2_ := (Option.bind_some _ _).symm.trans H; rw [hy156]; with_reducible exact H2_) | (have H2_ := (Option.bind_some _ _).symm.trans H; with_reducible exact H2_) | with_reducible exact H | (rw [hy156]; exact H) | exact H
 have Ny156 := Aside0.mk hy156
 clear hy156
 obtain ⟨y160, hy160⟩ : ∃ y_ : List Int, y_ = (([1, 0, 2, 3] : List Int)) := ⟨_, rfl⟩
 replace H : ((spec_l13Rd_num.f k s0_0 t155 y160).bind fun bt163 => (spec_l7Draw.l0 k bt163.1 s0_0 bt163.2 t149 t154 y156)) = some (r1, r2, r3, r4) := by first | (rw [hy160]; with_reducible exact H) | (have H2_ := (Option.bind_some _ _).symm.trans H; rw [hy160]; with_reducible exact H2_) | (have H2_ := (Option.bind_some _ _).symm.trans H; with_reducible exact H2_) | with_reducible exact H | (rw [hy160]; exact H) | exact H
 have Ny160 := Aside0.mk hy160
 clear hy160
 replace H := Option.bind_eq_some_iff.mp H
 obtain ⟨⟨t163, t164⟩, A40, H⟩ := H
 replace H : (spec_l7Draw.l0 k t163 s0_0 t164 t149 t154 y156) = some (r1, r2, r3, r4) := H
 have A4 := Aside0.mk A40
 clear A40
 have H' := Aside0.mk H
 clear H
 go_enter Tryd.func26, Tryd.ntmps26
 go_wp2_with (first | ((with_reducible refine gate_dst (N := 2) rfl ?_); refine box_event ?hg (N := 2) ?hd (cs := #[.string (⟨#[]⟩ : ByteArray), .string (⟨#[]⟩ : ByteArray), .slice none 0 0]) (t := 25) ?hr ?_; (case hd => rfl); (case hg => rfl); (case hr => first | (go_simp; done) | (go_simp; rfl)); intro gb145 hg w5 hbox hb; have n0_ := Aside0.mk (IsS62.below (by repeat (first | (with_reducible first | exact HI0.out | apply IsS62.alloc | apply IsS62.drewN | apply IsS62.drew | apply IsS62.set_1) | exact HI0.out)) hb); have n1_ := Aside0.mk (KeepBut.trans (by repeat (first | (with_reducible first | exact HK.out | apply KeepBut.set_ | apply keep_drewN | apply keep_drew | apply keep_alloc) | exact HK.out)) (KeepBut.of_below hb g none) (.inl rfl)); have n2_ := Aside0.mk (below_step (by repeat (first | (with_reducible first | exact HB.out | apply below_alloc | apply pw_below_drewN | apply below_drew1 | refine below_set ?_ (IsS62.ge HI0.out)) | exact HB.out)) hb); have n3_ := Aside0.mk (hbox); have n4_ := Aside0.mk ((by rw [hg]; exact (keep_size (w := w) (g := g) (row := none) (by repeat (first | (with_reducible first | exact HK.out | apply KeepBut.set_ | apply keep_drewN | apply keep_drew | apply keep_alloc) | exact HK.out))) : w.heap.size ≤ gb145)); have n5_ := Aside0.mk ((Nat.le_trans HW0.out (by rw [hg]; exact (keep_size (w := w) (g := g) (row := none) (by repeat (first | (with_reducible first | exact HK.out | apply KeepBut.set_ | apply keep_drewN | apply keep_drew | apply keep_alloc) | exact HK.out))) : w.heap.size ≤ gb145) : w0.heap.size ≤ gb145)); have n6_ := Aside0.mk ((by rw [hg]; exact Nat.ne_of_lt (IsS62.lt (show IsS62 w0 _ g s0_0 s0_1 from by repeat (first | (with_reducible first | exact HI0.out | apply IsS62.alloc | apply IsS62.drewN | apply IsS62.drew | apply IsS62.set_1) | exact HI0.out))) : g ≠ gb145)); have n7_ := Aside0.mk ((by rw [hg]; exact Nat.ne_of_gt (IsS62.lt (show IsS62 w0 _ g s0_0 s0_1 from by repeat (first | (with_reducible first | exact HI0.out | apply IsS62.alloc | apply IsS62.drewN | apply IsS62.drew | apply IsS62.set_1) | exact HI0.out))) : gb145 ≠ g)); clear HI0; clear HK; clear HB; have HI0 := n0_; have HK := n1_; have HB := n2_; have BK145 := n3_; have GW145 := n4_; have GE145 := n5_; have NB0_145 := n6_; have NB145_0 := n7_; clear n0_ n1_ n2_ n3_ n4_ n5_ n6_ n7_; clear hb hbox hg) | ((with_reducible refine gate_dst (N := 7) rfl ?_); refine Kd.R_lit Kd.string _ 9 ?hg (N := 7) ?hd (xs := ([(⟨#[116, 101, 120, 116]⟩ : ByteArray), (⟨#[105, 109, 97, 103, 101]⟩ : ByteArray), (⟨#[109, 117, 108, 116, 105, 112, 97, 114, 116]⟩ : ByteArray)] : List ByteArray)) (inner := [.string (⟨#[116, 101, 120, 116]⟩ : ByteArray), .string (⟨#[105, 109, 97, 103, 101]⟩ : ByteArray), .string (⟨#[109, 117, 108, 116, 105, 112, 97, 114, 116]⟩ : ByteArray)]) (ok := fun _ => True) (okp := fun _ => True) ?hr ?hp (fun _ hk => hk) trivial (Below.refl _ _) (Nat.le_refl _) (by simp) ?_; (case hd => rfl); (case hg => rfl); (case hr => first | (go_simp; done) | (go_simp; rfl)); (case hp => exact (Reps.one (show Kd.M Kd.string _ _ _ (⟨#[116, 101, 120, 116]⟩ : ByteArray) [.string (⟨#[116, 101, 120, 116]⟩ : ByteArray)] from rfl) (Reps.one (show Kd.M Kd.string _ _ _ (⟨#[105, 109, 97, 103, 101]⟩ : ByteArray) [.string (⟨#[105, 109, 97, 103, 101]⟩ : ByteArray)] from rfl) (Reps.one (show Kd.M Kd.string _ _ _ (⟨#[109, 117, 108, 116, 105, 112, 97, 114, 116]⟩ : ByteArray) [.string (⟨#[109, 117, 108, 116, 105, 112, 97, 114, 116]⟩ : ByteArray)] from rfl) (Reps.none _ _))))); intro v147 w6 ho7 hb hg_ hnew_; clear hg_ hnew_; (first | rw [← Ny146.out] at ho7 | (simp only [Int.reduceToNat] at ho7; rw [← Ny146.out] at ho7)); have n0_ := Aside0.mk (Kd.R_lower ho7 (keep_size (w := w) (g := g) (row := none) (by repeat (first | (with_reducible first | exact HK.out | apply KeepBut.set_ | apply keep_drewN | apply keep_drew | apply keep_alloc | refine keep_far ?_ GW145.out _) | exact HK.out)))); have n1_ := Aside0.mk (IsS62.below (by repeat (first | (with_reducible first | exact HI0.out | apply IsS62.alloc | apply IsS62.drewN | apply IsS62.drew | apply IsS62.set_1 | refine IsS62.far ?_ NB0_145.out _) | exact HI0.out)) hb); have n2_ := Aside0.mk (blk_below (g := gb145) (o := .cells #[.string (⟨#[]⟩ : ByteArray), .string (⟨#[]⟩ : ByteArray), .slice none 0 0] 25 (0, 0)) (ub BK145.out) hb); have n3_ := Aside0.mk (KeepBut.trans (by repeat (first | (with_reducible first | exact HK.out | apply KeepBut.set_ | apply keep_drewN | apply keep_drew | apply keep_alloc | refine keep_far ?_ GW145.out _) | exact HK.out)) (KeepBut.of_below hb g none) (.inl rfl)); have n4_ := Aside0.mk (below_step (by repeat (first | (with_reducible first | exact HB.out | apply below_alloc | apply pw_below_drewN | apply below_drew1 | refine below_set ?_ (IsS62.ge HI0.out) | refine below_set ?_ GE145.out) | exact HB.out)) hb); clear HI0; clear BK145; clear HK; clear HB; have HO148 := n0_; have HI0 := n1_; have BK145 := n2_; have HK := n3_; have HB := n4_; clear n0_ n1_ n2_ n3_ n4_; clear hb ho7; obtain ⟨Ao8, co8, eo8⟩ := Kd.R_slice HO148.out; subst eo8) | ((with_reducible refine gate_callee (f := 42) rfl ?_); refine goesL_ (some 8) rfl rfl Tryd.func42 (by kernel_rfl) rfl #[.pointer (some ⟨g, 0, none⟩), .slice Ao8 y146.length co8] rfl ma ?_; (with_reducible refine (spec_l13Rd_of.calls k g s0_0 s0_1 _ _ y146 t149 t150 w0 _ ?side1 ?side2 ?side3 ?side4 ?side5 A2.out).mono ?_); (case side1 => repeat (first | (with_reducible first | exact HI0.out | apply IsS62.alloc | apply IsS62.drewN | apply IsS62.drew | apply IsS62.set_1 | refine IsS62.far ?_ NB0_145.out _) | exact HI0.out)); (case side2 => repeat (first | (with_reducible first | exact HB.out | apply below_alloc | apply pw_below_drewN | apply below_drew1 | refine below_set ?_ (IsS62.ge HI0.out) | refine below_set ?_ GE145.out) | exact HB.out)); (case side3 => repeat (first | exact (Kd.R_reads' HO148.out).2.2 | (with_reducible refine Kd.C_alloc ?_ _) | (with_reducible refine Kd.C_drewN ?_ _) | (with_reducible refine Kd.C_drew ?_))); (case side4 => exact (Kd.R_reads' HO148.out).2.1); (case side5 => exact far_slice (IsS62.own_ne HI0.out HO148.out (by decide))); rintro e w9 ⟨rfl, hi, hb, hk⟩; refine ⟨_, rfl, ?_⟩; have n0_ := Aside0.mk (KeepBut.blk hk (g' := gb145) (o := .cells #[.string (⟨#[]⟩ : ByteArray), .string (⟨#[]⟩ : ByteArray), .slice none 0 0] 25 (0, 0)) (ub BK145.out) NB145_0.out (by simp)); have n1_ := Aside0.mk (Kd.R_mono (Kd.R_keep (IsS62.apart (show IsS62 w0 _ g s0_0 s0_1 from by repeat (first | (with_reducible first | exact HI0.out | apply IsS62.alloc | apply IsS62.drewN | apply IsS62.drew | apply IsS62.set_1 | refine IsS62.far ?_ NB0_145.out _) | exact HI0.out)) (ur HO148.out) (by decide)) hk (fun _ h => h.2)) (fun _ h => h.1)); have n2_ := Aside0.mk (KeepBut.trans (by repeat (first | (with_reducible first | exact HK.out | apply KeepBut.set_ | apply keep_drewN | apply keep_drew | apply keep_alloc | refine keep_far ?_ GW145.out _) | exact HK.out)) hk (.inl rfl)); have n3_ := Aside0.mk (hb); have n4_ := Aside0.mk (hi); clear BK145; clear HO148; clear HK; clear HB; clear HI0; have BK145 := n0_; have HO148 := n1_; have HK := n2_; have HB := n3_; have HI0 := n4_; clear n0_ n1_ n2_ n3_ n4_; (try clear hb); (try clear hb2); (try clear hk); (try clear hi)) | ((with_reducible refine gate_dst (N := 10) rfl ?_); refine Kd.R_lit Kd.string _ 9 ?hg (N := 10) ?hd (xs := ([(⟨#[112, 108, 97, 105, 110]⟩ : ByteArray), (⟨#[104, 116, 109, 108]⟩ : ByteArray), (⟨#[109, 105, 120, 101, 100]⟩ : ByteArray), (⟨#[120, 45, 121]⟩ : ByteArray)] : List ByteArray)) (inner := [.string (⟨#[112, 108, 97, 105, 110]⟩ : ByteArray), .string (⟨#[104, 116, 109, 108]⟩ : ByteArray), .string (⟨#[109, 105, 120, 101, 100]⟩ : ByteArray), .string (⟨#[120, 45, 121]⟩ : ByteArray)]) (ok := fun _ => True) (okp := fun _ => True) ?hr ?hp (fun _ hk => hk) trivial (Below.refl _ _) (Nat.le_refl _) (by simp) ?_; (case hd => rfl); (case hg => rfl); (case hr => first | (go_simp; done) | (go_simp; rfl)); (case hp => exact (Reps.one (show Kd.M Kd.string _ _ _ (⟨#[112, 108, 97, 105, 110]⟩ : ByteArray) [.string (⟨#[112, 108, 97, 105, 110]⟩ : ByteArray)] from rfl) (Reps.one (show Kd.M Kd.string _ _ _ (⟨#[104, 116, 109, 108]⟩ : ByteArray) [.string (⟨#[104, 116, 109, 108]⟩ : ByteArray)] from rfl) (Reps.one (show Kd.M Kd.string _ _ _ (⟨#[109, 105, 120, 101, 100]⟩ : ByteArray) [.string (⟨#[109, 105, 120, 101, 100]⟩ : ByteArray)] from rfl) (Reps.one (show Kd.M Kd.string _ _ _ (⟨#[120, 45, 121]⟩ : ByteArray) [.string (⟨#[120, 45, 121]⟩ : ByteArray)] from rfl) (Reps.none _ _)))))); intro v152 w10 ho11 hb hg_ hnew_; clear hg_ hnew_; (first | rw [← Ny151.out] at ho11 | (simp only [Int.reduceToNat] at ho11; rw [← Ny151.out] at ho11)); have n0_ := Aside0.mk (Kd.R_elder' (ur HO148.out) (Kd.R_base ho11) hb); have n1_ := Aside0.mk (Kd.R_lower (Kd.R_new' ho11 (Kd.R_lt (ur HO148.out))) (keep_size (w := w) (g := g) (row := none) (by repeat (first | (with_reducible first | exact HK.out | apply KeepBut.set_ | apply keep_drewN | apply keep_drew | apply keep_alloc | refine keep_far ?_ GW145.out _) | exact HK.out)))); have n2_ := Aside0.mk (IsS62.below (by repeat (first | (with_reducible first | exact HI0.out | apply IsS62.alloc | apply IsS62.drewN | apply IsS62.drew | apply IsS62.set_1 | refine IsS62.far ?_ NB0_145.out _) | exact HI0.out)) hb); have n3_ := Aside0.mk (blk_below (g := gb145) (o := .cells #[.string (⟨#[]⟩ : ByteArray), .string (⟨#[]⟩ : ByteArray), .slice none 0 0] 25 (0, 0)) (ub BK145.out) hb); have n4_ := Aside0.mk (KeepBut.trans (by repeat (first | (with_reducible first | exact HK.out | apply KeepBut.set_ | apply keep_drewN | apply keep_drew | apply keep_alloc | refine keep_far ?_ GW145.out _) | exact HK.out)) (KeepBut.of_below hb g none) (.inl rfl)); have n5_ := Aside0.mk (below_step (by repeat (first | (with_reducible first | exact HB.out | apply below_alloc | apply pw_below_drewN | apply below_drew1 | refine below_set ?_ (IsS62.ge HI0.out) | refine below_set ?_ GE145.out) | exact HB.out)) hb); clear HO148; clear HI0; clear BK145; clear HK; clear HB; have HO148 := n0_; have HO153 := n1_; have HI0 := n2_; have BK145 := n3_; have HK := n4_; have HB := n5_; clear n0_ n1_ n2_ n3_ n4_ n5_; clear hb ho11; obtain ⟨Ao12, co12, eo12⟩ := Kd.R_slice HO153.out; subst eo12) | ((with_reducible refine gate_callee (f := 42) rfl ?_); refine goesL_ (some 11) rfl rfl Tryd.func42 (by kernel_rfl) rfl #[.pointer (some ⟨g, 0, none⟩), .slice Ao12 y151.length co12] rfl ma ?_; (with_reducible refine (spec_l13Rd_of.calls k g s0_0 t150 _ _ y151 t154 t155 w0 _ ?side1 ?side2 ?side3 ?side4 ?side5 A3.out).mono ?_); (case side1 => repeat (first | (with_reducible first | exact HI0.out | apply IsS62.alloc | apply IsS62.drewN | apply IsS62.drew | apply IsS62.set_1 | refine IsS62.far ?_ NB0_145.out _) | exact HI0.out)); (case side2 => repeat (first | (with_reducible first | exact HB.out | apply below_alloc | apply pw_below_drewN | apply below_drew1 | refine below_set ?_ (IsS62.ge HI0.out) | refine below_set ?_ GE145.out) | exact HB.out)); (case side3 => repeat (first | exact (Kd.R_reads' HO153.out).2.2 | (with_reducible refine Kd.C_alloc ?_ _) | (with_reducible refine Kd.C_drewN ?_ _) | (with_reducible refine Kd.C_drew ?_))); (case side4 => exact (Kd.R_reads' HO153.out).2.1); (case side5 => exact far_slice (IsS62.own_ne HI0.out HO153.out (by decide))); rintro e w13 ⟨rfl, hi, hb, hk⟩; refine ⟨_, rfl, ?_⟩; have n0_ := Aside0.mk (KeepBut.blk hk (g' := gb145) (o := .cells #[.string (⟨#[]⟩ : ByteArray), .string (⟨#[]⟩ : ByteArray), .slice none 0 0] 25 (0, 0)) (ub BK145.out) NB145_0.out (by simp)); have n1_ := Aside0.mk (Kd.R_mono (Kd.R_keep (IsS62.apart (show IsS62 w0 _ g s0_0 t150 from by repeat (first | (with_reducible first | exact HI0.out | apply IsS62.alloc | apply IsS62.drewN | apply IsS62.drew | apply IsS62.set_1 | refine IsS62.far ?_ NB0_145.out _) | exact HI0.out)) (ur HO148.out) (by decide)) hk (fun _ h => h.2)) (fun _ h => h.1)); have n2_ := Aside0.mk (Kd.R_mono (Kd.R_keep (IsS62.apart (show IsS62 w0 _ g s0_0 t150 from by repeat (first | (with_reducible first | exact HI0.out | apply IsS62.alloc | apply IsS62.drewN | apply IsS62.drew | apply IsS62.set_1 | refine IsS62.far ?_ NB0_145.out _) | exact HI0.out)) (ur HO153.out) (by decide)) hk (fun _ h => h.2)) (fun _ h => h.1)); have n3_ := Aside0.mk (KeepBut.trans (by repeat (first | (with_reducible first | exact HK.out | apply KeepBut.set_ | apply keep_drewN | apply keep_drew | apply keep_alloc | refine keep_far ?_ GW145.out _) | exact HK.out)) hk (.inl rfl)); have n4_ := Aside0.mk (hb); have n5_ := Aside0.mk (hi); clear BK145; clear HO148; clear HO153; clear HK; clear HB; clear HI0; have BK145 := n0_; have HO148 := n1_; have HO153 := n2_; have HK := n3_; have HB := n4_; have HI0 := n5_; clear n0_ n1_ n2_ n3_ n4_ n5_; (try clear hb); (try clear hb2); (try clear hk); (try clear hi)) | ((with_reducible refine gate_dst (N := 12) rfl ?_); refine Kd.R_lit k29 _ 29 ?hg (N := 12) ?hd (xs := ([] : List (S29))) (inner := []) (ok := fun _ => True) (okp := fun _ => True) ?hr ?hp (fun _ hk => hk) trivial (Below.refl _ _) (Nat.le_refl _) (by simp) ?_; (case hd => rfl); (case hg => rfl); (case hr => first | (go_simp; done) | (go_simp; rfl)); (case hp => exact (Reps.none _ _)); intro v157 w14 ho15 hb hg_ hnew_; clear hg_ hnew_; (first | rw [← Ny156.out] at ho15 | (simp only [Int.reduceToNat] at ho15; rw [← Ny156.out] at ho15)); have n0_ := Aside0.mk (Kd.R_below (ur HO148.out) hb); have n1_ := Aside0.mk (Kd.R_below (ur HO153.out) hb); have n2_ := Aside0.mk (Kd.R_lower ho15 (keep_size (w := w) (g := g) (row := none) (by repeat (first | (with_reducible first | exact HK.out | apply KeepBut.set_ | apply keep_drewN | apply keep_drew | apply keep_alloc | refine keep_far ?_ GW145.out _) | exact HK.out)))); have n3_ := Aside0.mk (IsS62.below (by repeat (first | (with_reducible first | exact HI0.out | apply IsS62.alloc | apply IsS62.drewN | apply IsS62.drew | apply IsS62.set_1 | refine IsS62.far ?_ NB0_145.out _) | exact HI0.out)) hb); have n4_ := Aside0.mk (blk_below (g := gb145) (o := .cells #[.string (⟨#[]⟩ : ByteArray), .string (⟨#[]⟩ : ByteArray), .slice none 0 0] 25 (0, 0)) (ub BK145.out) hb); have n5_ := Aside0.mk (KeepBut.trans (by repeat (first | (with_reducible first | exact HK.out | apply KeepBut.set_ | apply keep_drewN | apply keep_drew | apply keep_alloc | refine keep_far ?_ GW145.out _) | exact HK.out)) (KeepBut.of_below hb g none) (.inl rfl)); have n6_ := Aside0.mk (below_step (by repeat (first | (with_reducible first | exact HB.out | apply below_alloc | apply pw_below_drewN | apply below_drew1 | refine below_set ?_ (IsS62.ge HI0.out) | refine below_set ?_ GE145.out) | exact HB.out)) hb); clear HO148; clear HO153; clear HI0; clear BK145; clear HK; clear HB; have HO148 := n0_; have HO153 := n1_; have HO158 := n2_; have HI0 := n3_; have BK145 := n4_; have HK := n5_; have HB := n6_; clear n0_ n1_ n2_ n3_ n4_ n5_ n6_; clear hb ho15; obtain ⟨Ao16, co16, eo16⟩ := Kd.R_slice HO158.out; subst eo16) | ((with_reducible refine gate_dst (N := 3) rfl ?_); refine box_event ?hg (N := 3) ?hd (cs := #[.string (⟨#[]⟩ : ByteArray), .string (⟨#[]⟩ : ByteArray), .slice none 0 0]) (t := 25) ?hr ?_; (case hd => rfl); (case hg => rfl); (case hr => first | (go_simp; done) | (go_simp; rfl)); intro gb159 hg w17 hbox hb; have n0_ := Aside0.mk (Kd.R_below (ur HO148.out) hb); have n1_ := Aside0.mk (Kd.R_below (ur HO153.out) hb); have n2_ := Aside0.mk (Kd.R_below (ur HO158.out) hb); have n3_ := Aside0.mk (IsS62.below (by repeat (first | (with_reducible first | exact HI0.out | apply IsS62.alloc | apply IsS62.drewN | apply IsS62.drew | apply IsS62.set_1 | refine IsS62.far ?_ NB0_145.out _) | exact HI0.out)) hb); have n4_ := Aside0.mk (blk_below (g := gb145) (o := .cells #[.string (⟨#[]⟩ : ByteArray), .string (⟨#[]⟩ : ByteArray), .slice none 0 0] 25 (0, 0)) (ub BK145.out) hb); have n5_ := Aside0.mk (KeepBut.trans (by repeat (first | (with_reducible first | exact HK.out | apply KeepBut.set_ | apply keep_drewN | apply keep_drew | apply keep_alloc | refine keep_far ?_ GW145.out _) | exact HK.out)) (KeepBut.of_below hb g none) (.inl rfl)); have n6_ := Aside0.mk (below_step (by repeat (first | (with_reducible first | exact HB.out | apply below_alloc | apply pw_below_drewN | apply below_drew1 | refine below_set ?_ (IsS62.ge HI0.out) | refine below_set ?_ GE145.out) | exact HB.out)) hb); have n7_ := Aside0.mk (hbox); have n8_ := Aside0.mk ((by rw [hg]; exact (keep_size (w := w) (g := g) (row := none) (by repeat (first | (with_reducible first | exact HK.out | apply KeepBut.set_ | apply keep_drewN | apply keep_drew | apply keep_alloc | refine keep_far ?_ GW145.out _) | exact HK.out))) : w.heap.size ≤ gb159)); have n9_ := Aside0.mk ((Nat.le_trans HW0.out (by rw [hg]; exact (keep_size (w := w) (g := g) (row := none) (by repeat (first | (with_reducible first | exact HK.out | apply KeepBut.set_ | apply keep_drewN | apply keep_drew | apply keep_alloc | refine keep_far ?_ GW145.out _) | exact HK.out))) : w.heap.size ≤ gb159) : w0.heap.size ≤ gb159)); have n10_ := Aside0.mk ((by rw [hg]; exact Nat.ne_of_lt (blk_lt (g := gb145) (o := .cells #[.string (⟨#[]⟩ : ByteArray), .string (⟨#[]⟩ : ByteArray), .slice none 0 0] 25 (0, 0)) (ub BK145.out)) : gb145 ≠ gb159)); have n11_ := Aside0.mk ((by rw [hg]; exact Nat.ne_of_gt (blk_lt (g := gb145) (o := .cells #[.string (⟨#[]⟩ : ByteArray), .string (⟨#[]⟩ : ByteArray), .slice none 0 0] 25 (0, 0)) (ub BK145.out)) : gb159 ≠ gb145)); have n12_ := Aside0.mk ((by rw [hg]; exact Nat.ne_of_lt (IsS62.lt (show IsS62 w0 _ g s0_0 t155 from by repeat (first | (with_reducible first | exact HI0.out | apply IsS62.alloc | apply IsS62.drewN | apply IsS62.drew | apply IsS62.set_1 | refine IsS62.far ?_ NB0_145.out _) | exact HI0.out))) : g ≠ gb159)); have n13_ := Aside0.mk ((by rw [hg]; exact Nat.ne_of_gt (IsS62.lt (show IsS62 w0 _ g s0_0 t155 from by repeat (first | (with_reducible first | exact HI0.out | apply IsS62.alloc | apply IsS62.drewN | apply IsS62.drew | apply IsS62.set_1 | refine IsS62.far ?_ NB0_145.out _) | exact HI0.out))) : gb159 ≠ g)); clear HO148; clear HO153; clear HO158; clear HI0; clear BK145; clear HK; clear HB; have HO148 := n0_; have HO153 := n1_; have HO158 := n2_; have HI0 := n3_; have BK145 := n4_; have HK := n5_; have HB := n6_; have BK159 := n7_; have GW159 := n8_; have GE159 := n9_; have NB145_159 := n10_; have NB159_145 := n11_; have NB0_159 := n12_; have NB159_0 := n13_; clear n0_ n1_ n2_ n3_ n4_ n5_ n6_ n7_ n8_ n9_ n10_ n11_ n12_ n13_; clear hb hbox hg; have hnb18 := NB159_145.out; have hnc18 := NB145_159.out; have hnb19 := NB159_0.out; have hnc19 := NB0_159.out; have hcz20_0 : w17.cell? ⟨gb159, 0, none⟩ = some (.string (⟨#[]⟩ : ByteArray)) := (blk_cell BK159.out 0).trans rfl; have hcz20_1 : w17.cell? ⟨gb159, 1, none⟩ = some (.string (⟨#[]⟩ : ByteArray)) := (blk_cell BK159.out 1).trans rfl; have hcz20_2 : w17.cell? ⟨gb159, 2, none⟩ = some (.slice none 0 0) := (blk_cell BK159.out 2).trans rfl; have hfz20_0 := blk_frozen BK159.out 0; have hfz20_1 := blk_frozen BK159.out 1; have hfz20_2 := blk_frozen BK159.out 2) | ((with_reducible refine gate_dst (N := 15) rfl ?_); refine Kd.R_lit (Kd.int .i64) _ 3 ?hg (N := 15) ?hd (xs := ([1, 0, 2, 3] : List Int)) (inner := [.int .i64 1, .int .i64 0, .int .i64 2, .int .i64 3]) (ok := fun _ => True) (okp := fun _ => True) ?hr ?hp (fun _ hk => hk) trivial (Below.refl _ _) (Nat.le_refl _) (by simp) ?_; (case hd => rfl); (case hg => rfl); (case hr => first | (go_simp; done) | (go_simp; rfl)); (case hp => exact (Reps.one (show Kd.M (Kd.int .i64) _ _ _ 1 [.int .i64 1] from rfl) (Reps.one (show Kd.M (Kd.int .i64) _ _ _ 0 [.int .i64 0] from rfl) (Reps.one (show Kd.M (Kd.int .i64) _ _ _ 2 [.int .i64 2] from rfl) (Reps.one (show Kd.M (Kd.int .i64) _ _ _ 3 [.int .i64 3] from rfl) (Reps.none _ _)))))); intro v161 w21 ho22 hb hg_ hnew_; clear hg_ hnew_; (first | rw [← Ny160.out] at ho22 | (simp only [Int.reduceToNat] at ho22; rw [← Ny160.out] at ho22)); have n0_ := Aside0.mk (Kd.R_below (ur (Kd.R_mono (Kd.R_far (p := ⟨gb159, 2, none⟩) (Kd.R_far (p := ⟨gb159, 1, none⟩) (Kd.R_far (p := ⟨gb159, 0, none⟩) (Kd.R_types HO148.out BK159.out (by decide)) (fun _ hk => hk.2) (.string t149)) (fun _ hk => hk.2) (.string t154)) (fun _ hk => hk.2) (.slice Ao16 y156.length co16)) (fun _ h_ => h_.1))) hb); have n1_ := Aside0.mk (Kd.R_below (ur (Kd.R_mono (Kd.R_far (p := ⟨gb159, 2, none⟩) (Kd.R_far (p := ⟨gb159, 1, none⟩) (Kd.R_far (p := ⟨gb159, 0, none⟩) (Kd.R_types HO153.out BK159.out (by decide)) (fun _ hk => hk.2) (.string t149)) (fun _ hk => hk.2) (.string t154)) (fun _ hk => hk.2) (.slice Ao16 y156.length co16)) (fun _ h_ => h_.1))) hb); have n2_ := Aside0.mk (Kd.R_below (ur (Kd.R_mono (Kd.R_far (p := ⟨gb159, 2, none⟩) (Kd.R_far (p := ⟨gb159, 1, none⟩) (Kd.R_far (p := ⟨gb159, 0, none⟩) (Kd.R_types HO158.out BK159.out (by decide)) (fun _ hk => hk.2) (.string t149)) (fun _ hk => hk.2) (.string t154)) (fun _ hk => hk.2) (.slice Ao16 y156.length co16)) (fun _ h_ => h_.1))) hb); have n3_ := Aside0.mk (Kd.R_lower ho22 (keep_size (w := w) (g := g) (row := none) (by repeat (first | (with_reducible first | exact HK.out | apply KeepBut.set_ | apply keep_drewN | apply keep_drew | apply keep_alloc | refine keep_far ?_ GW145.out _ | refine keep_far ?_ GW159.out _) | exact HK.out)))); have n4_ := Aside0.mk (IsS62.below (show IsS62 w0 (((w17.setCell ⟨gb159, 0, none⟩ (.string t149)).setCell ⟨gb159, 1, none⟩ (.string t154)).setCell ⟨gb159, 2, none⟩ (.slice Ao16 y156.length co16)) g s0_0 t155 from by repeat (first | (with_reducible first | exact HI0.out | apply IsS62.alloc | apply IsS62.drewN | apply IsS62.drew | apply IsS62.set_1 | refine IsS62.far ?_ NB0_145.out _ | refine IsS62.far ?_ NB0_159.out _) | exact HI0.out)) hb); have n5_ := Aside0.mk (blk_below (g := gb145) (o := .cells #[.string (⟨#[]⟩ : ByteArray), .string (⟨#[]⟩ : ByteArray), .slice none 0 0] 25 (0, 0)) (by (with_reducible repeat (first | refine blk_drewN ?_ _ | refine blk_drew ?_ | refine blk_alloc ?_ _)); refine blk_far ?_ NB145_159.out _; (with_reducible repeat (first | refine blk_drewN ?_ _ | refine blk_drew ?_ | refine blk_alloc ?_ _)); refine blk_far ?_ NB145_159.out _; (with_reducible repeat (first | refine blk_drewN ?_ _ | refine blk_drew ?_ | refine blk_alloc ?_ _)); refine blk_far ?_ NB145_159.out _; (with_reducible repeat (first | refine blk_drewN ?_ _ | refine blk_drew ?_ | refine blk_alloc ?_ _)); exact BK145.out) hb); have n6_ := Aside0.mk (blk_below (g := gb159) (o := .cells #[.string t149, .string t154, .slice Ao16 y156.length co16] 25 (0, 0)) (by (with_reducible repeat (first | refine blk_drewN ?_ _ | refine blk_drew ?_ | refine blk_alloc ?_ _)); refine blk_put (cs := #[.string t149, .string t154, .slice none 0 0]) ?_ 2 _ rfl; (with_reducible repeat (first | refine blk_drewN ?_ _ | refine blk_drew ?_ | refine blk_alloc ?_ _)); refine blk_put (cs := #[.string t149, .string (⟨#[]⟩ : ByteArray), .slice none 0 0]) ?_ 1 _ rfl; (with_reducible repeat (first | refine blk_drewN ?_ _ | refine blk_drew ?_ | refine blk_alloc ?_ _)); refine blk_put (cs := #[.string (⟨#[]⟩ : ByteArray), .string (⟨#[]⟩ : ByteArray), .slice none 0 0]) ?_ 0 _ rfl; (with_reducible repeat (first | refine blk_drewN ?_ _ | refine blk_drew ?_ | refine blk_alloc ?_ _)); exact BK159.out) hb); have n7_ := Aside0.mk (KeepBut.trans (by repeat (first | (with_reducible first | exact HK.out | apply KeepBut.set_ | apply keep_drewN | apply keep_drew | apply keep_alloc | refine keep_far ?_ GW145.out _ | refine keep_far ?_ GW159.out _) | exact HK.out)) (KeepBut.of_below hb g none) (.inl rfl)); have n8_ := Aside0.mk (below_step (by repeat (first | (with_reducible first | exact HB.out | apply below_alloc | apply pw_below_drewN | apply below_drew1 | refine below_set ?_ (IsS62.ge HI0.out) | refine below_set ?_ GE145.out | refine below_set ?_ GE159.out) | exact HB.out)) hb); clear HO148; clear HO153; clear HO158; clear HI0; clear BK145; clear BK159; clear HK; clear HB; have HO148 := n0_; have HO153 := n1_; have HO158 := n2_; have HO162 := n3_; have HI0 := n4_; have BK145 := n5_; have BK159 := n6_; have HK := n7_; have HB := n8_; clear n0_ n1_ n2_ n3_ n4_ n5_ n6_ n7_ n8_; clear hb ho22; obtain ⟨Ao23, co23, eo23⟩ := Kd.R_slice HO162.out; subst eo23) | ((with_reducible refine gate_callee (f := 56) rfl ?_); refine goesL_ (some 16) rfl rfl Tryd.func56 (by kernel_rfl) rfl #[.pointer (some ⟨g, 0, none⟩), .slice Ao23 y160.length co23] rfl ma ?_; (with_reducible refine (spec_l13Rd_num.calls k g s0_0 t155 _ _ y160 t163 t164 w0 _ ?side1 ?side2 ?side3 ?side4 ?side5 A4.out).mono ?_); (case side1 => repeat (first | (with_reducible first | exact HI0.out | apply IsS62.alloc | apply IsS62.drewN | apply IsS62.drew | apply IsS62.set_1 | refine IsS62.far ?_ NB0_145.out _ | refine IsS62.far ?_ NB0_159.out _) | exact HI0.out)); (case side2 => repeat (first | (with_reducible first | exact HB.out | apply below_alloc | apply pw_below_drewN | apply below_drew1 | refine below_set ?_ (IsS62.ge HI0.out) | refine below_set ?_ GE145.out | refine below_set ?_ GE159.out) | exact HB.out)); (case side3 => repeat (first | exact (Kd.R_reads' HO162.out).2.2 | (with_reducible refine Kd.C_alloc ?_ _) | (with_reducible refine Kd.C_drewN ?_ _) | (with_reducible refine Kd.C_drew ?_))); (case side4 => exact (Kd.R_reads' HO162.out).2.1); (case side5 => exact far_slice (IsS62.own_ne HI0.out HO162.out (by decide))); rintro e w24 ⟨rfl, hi, hb, hk⟩; refine ⟨_, rfl, ?_⟩; have n0_ := Aside0.mk (KeepBut.blk hk (g' := gb145) (o := .cells #[.string (⟨#[]⟩ : ByteArray), .string (⟨#[]⟩ : ByteArray), .slice none 0 0] 25 (0, 0)) (ub BK145.out) NB145_0.out (by simp)); have n1_ := Aside0.mk (Kd.R_mono (Kd.R_keep (IsS62.apart (show IsS62 w0 _ g s0_0 t155 from by repeat (first | (with_reducible first | exact HI0.out | apply IsS62.alloc | apply IsS62.drewN | apply IsS62.drew | apply IsS62.set_1 | refine IsS62.far ?_ NB0_145.out _ | refine IsS62.far ?_ NB0_159.out _) | exact HI0.out)) (ur HO148.out) (by decide)) hk (fun _ h => h.2)) (fun _ h => h.1)); have n2_ := Aside0.mk (Kd.R_mono (Kd.R_keep (IsS62.apart (show IsS62 w0 _ g s0_0 t155 from by repeat (first | (with_reducible first | exact HI0.out | apply IsS62.alloc | apply IsS62.drewN | apply IsS62.drew | apply IsS62.set_1 | refine IsS62.far ?_ NB0_145.out _ | refine IsS62.far ?_ NB0_159.out _) | exact HI0.out)) (ur HO153.out) (by decide)) hk (fun _ h => h.2)) (fun _ h => h.1)); have n3_ := Aside0.mk (Kd.R_mono (Kd.R_keep (IsS62.apart (show IsS62 w0 _ g s0_0 t155 from by repeat (first | (with_reducible first | exact HI0.out | apply IsS62.alloc | apply IsS62.drewN | apply IsS62.drew | apply IsS62.set_1 | refine IsS62.far ?_ NB0_145.out _ | refine IsS62.far ?_ NB0_159.out _) | exact HI0.out)) (ur HO158.out) (by decide)) hk (fun _ h => h.2)) (fun _ h => h.1)); have n4_ := Aside0.mk (KeepBut.blk hk (g' := gb159) (o := .cells #[.string t149, .string t154, .slice Ao16 y156.length co16] 25 (0, 0)) (ub BK159.out) NB159_0.out (by simp)); have n5_ := Aside0.mk (Kd.R_mono (Kd.R_keep (IsS62.apart (show IsS62 w0 _ g s0_0 t155 from by repeat (first | (with_reducible first | exact HI0.out | apply IsS62.alloc | apply IsS62.drewN | apply IsS62.drew | apply IsS62.set_1 | refine IsS62.far ?_ NB0_145.out _ | refine IsS62.far ?_ NB0_159.out _) | exact HI0.out)) (ur HO162.out) (by decide)) hk (fun _ h => h.2)) (fun _ h => h.1)); have n6_ := Aside0.mk (KeepBut.trans (by repeat (first | (with_reducible first | exact HK.out | apply KeepBut.set_ | apply keep_drewN | apply keep_drew | apply keep_alloc | refine keep_far ?_ GW145.out _ | refine keep_far ?_ GW159.out _) | exact HK.out)) hk (.inl rfl)); have n7_ := Aside0.mk (hb); have n8_ := Aside0.mk (hi); clear BK145; clear HO148; clear HO153; clear HO158; clear BK159; clear HO162; clear HK; clear HB; clear HI0; have BK145 := n0_; have HO148 := n1_; have HO153 := n2_; have HO158 := n3_; have BK159 := n4_; have HO162 := n5_; have HK := n6_; have HB := n7_; have HI0 := n8_; clear n0_ n1_ n2_ n3_ n4_ n5_ n6_ n7_ n8_; (try clear hb); (try clear hb2); (try clear hk); (try clear hi)))
 go_loopg [4] k (fun kq v4 w' => ∃ (x4_1 : Int) (x1001_1 : Int) (x160002_1 : List (S29)) (u160002 : Value), v4 = .int .i64 x4_1 ∧ Aside0 (spec_l7Draw.l0 kq x4_1 s0_0 x1001_1 t149 t154 x160002_1 = some (r1, r2, r3, r4)) ∧ Aside0 (kq ≤ k) ∧ Aside0 (Kd.R k29 29 w' w.heap.size (fun _ => True) u160002 x160002_1) ∧ Aside0 (w'.heap[gb145]? = some (.cells #[.string (⟨#[]⟩ : ByteArray), .string (⟨#[]⟩ : ByteArray), (.slice none 0 0)] 25 (0, 0))) ∧ Aside0 (w'.heap[gb159]? = some (.cells #[.string t149, .string t154, u160002] 25 (0, 0))) ∧ Aside0 (IsS62 w0 w' g s0_0 x1001_1) ∧ Aside0 (KeepBut w w' g none) ∧ Aside0 (Below w0.heap.size w0 w'))
 case atStart => exact ⟨(t163), (t164), (y156), (.slice Ao16 y156.length co16), (by first | rfl | (simp; done) | (simp [*]; done)), H', ⟨Nat.le_refl _⟩, ⟨ur HO158.out⟩, ⟨ub BK145.out⟩, ⟨ub BK159.out⟩, ⟨by repeat (first | (with_reducible first | exact HI0.out | apply IsS62.alloc | apply IsS62.drewN | apply IsS62.drew | apply IsS62.set_1 | refine IsS62.far ?_ NB0_145.out _ | refine IsS62.far ?_ NB0_159.out _) | exact HI0.out)⟩, ⟨by repeat (first | (with_reducible first | exact HK.out | apply KeepBut.set_ | apply keep_drewN | apply keep_drew | apply keep_alloc | refine keep_far ?_ GW145.out _ | refine keep_far ?_ GW159.out _) | exact HK.out)⟩, ⟨by repeat (first | (with_reducible first | exact HB.out | apply below_alloc | apply pw_below_drewN | apply below_drew1 | refine below_set ?_ (IsS62.ge HI0.out) | refine below_set ?_ GE145.out | refine below_set ?_ GE159.out) | exact HB.out)⟩⟩
 case round =>
  clear H'
  try clear c1
  try clear c2
  try clear p2
  try clear c4
  try clear c5
  try clear c18
  try clear c19
  try clear hcz20_0
  try clear hcz20_1
  try clear hcz20_2
  try clear hfz20_0
  try clear hfz20_1
  try clear hfz20_2
  obtain ⟨x4_1, x1001_1, x160002_1, u160002, rfl, HA, HK1, HO_160002, BK145, BK159, HI0, HK, HB⟩ := hrel
  cases gk with
  | zero => exact absurd HA.out (by simp [spec_l7Draw.l0])
  | succ k1 =>
   have H := HA.out
   clear HA
   simp only [spec_l7Draw.l0] at H
   by_cases c25 : x4_1 > 0
   ·
    rw [if_pos c25] at H
    have c25b0 : decide (0 < x4_1) = true := decide_eq_true c25
    clear c25
    obtain ⟨y165, hy165⟩ : ∃ y_ : List ByteArray, y_ = (([(⟨#[99, 104, 97, 114, 115, 101, 116]⟩ : ByteArray), (⟨#[98, 111, 117, 110, 100, 97, 114, 121]⟩ : ByteArray), (⟨#[110, 97, 109, 101]⟩ : ByteArray), (⟨#[120]⟩ : ByteArray)] : List ByteArray)) := ⟨_, rfl⟩
    replace H : ((spec_l13Rd_of.f k1 s0_0 x1001_1 y165).bind fun bt168 => ((spec_l13Rd_of.f k1 s0_0 bt168.2 (([(⟨#[117, 116, 102, 45, 56]⟩ : ByteArray), (⟨#[98, 48]⟩ : ByteArray), (⟨#[97, 32, 98]⟩ : ByteArray), (⟨#[113, 34, 122]⟩ : ByteArray), (⟨#[]⟩ : ByteArray), (⟨#[98, 59, 99]⟩ : ByteArray), (⟨#[120, 121, 122]⟩ : ByteArray)] : List ByteArray))).bind fun bt173 => ((spec_l3Find.f k1 x160002_1 bt168.1).bind fun t176 => (if t176 < 0 then (if x160002_1.length < 4398046511104 then (spec_l7Draw.l0 k1 (wrap64 (x4_1 - 1)) s0_0 bt173.2 t149 t154 (x160002_1 ++ [(⟨bt168.1, bt173.1⟩ : S29)])) else (none)) else (spec_l7Draw.l0 k1 (wrap64 (x4_1 - 1)) s0_0 bt173.2 t149 t154 x160002_1))))) = some (r1, r2, r3, r4) := by first | (rw [hy165]; with_reducible exact H) | (have H2_ := (Option.bind_some _ _).symm.trans H; rw [hy165]; with_reducible exact H2_) | (have H2_ := (Option.bind_some _ _).symm.trans H; with_reducible exact H2_) | with_reducible exact H | (rw [hy165]; exact H) | exact H
    have Ny165 := Aside0.mk hy165
    clear hy165
    replace H := Option.bind_eq_some_iff.mp H
    obtain ⟨⟨t168, t169⟩, A260, H⟩ := H
    replace H : ((spec_l13Rd_of.f k1 s0_0 t169 (([(⟨#[117, 116, 102, 45, 56]⟩ : ByteArray), (⟨#[98, 48]⟩ : ByteArray), (⟨#[97, 32, 98]⟩ : ByteArray), (⟨#[113, 34, 122]⟩ : ByteArray), (⟨#[]⟩ : ByteArray), (⟨#[98, 59, 99]⟩ : ByteArray), (⟨#[120, 121, 122]⟩ : ByteArray)] : List ByteArray))).bind fun bt173 => ((spec_l3Find.f k1 x160002_1 t168).bind fun t176 => (if t176 < 0 then (if x160002_1.length < 4398046511104 then (spec_l7Draw.l0 k1 (wrap64 (x4_1 - 1)) s0_0 bt173.2 t149 t154 (x160002_1 ++ [(⟨t168, bt173.1⟩ : S29)])) else (none)) else (spec_l7Draw.l0 k1 (wrap64 (x4_1 - 1)) s0_0 bt173.2 t149 t154 x160002_1)))) = some (r1, r2, r3, r4) := H
    have A26 := Aside0.mk A260
    clear A260
    obtain ⟨y170, hy170⟩ : ∃ y_ : List ByteArray, y_ = (([(⟨#[117, 116, 102, 45, 56]⟩ : ByteArray), (⟨#[98, 48]⟩ : ByteArray), (⟨#[97, 32, 98]⟩ : ByteArray), (⟨#[113, 34, 122]⟩ : ByteArray), (⟨#[]⟩ : ByteArray), (⟨#[98, 59, 99]⟩ : ByteArray), (⟨#[120, 121, 122]⟩ : ByteArray)] : List ByteArray)) := ⟨_, rfl⟩
    replace H : ((spec_l13Rd_of.f k1 s0_0 t169 y170).bind fun bt173 => ((spec_l3Find.f k1 x160002_1 t168).bind fun t176 => (if t176 < 0 then (if x160002_1.length < 4398046511104 then (spec_l7Draw.l0 k1 (wrap64 (x4_1 - 1)) s0_0 bt173.2 t149 t154 (x160002_1 ++ [(⟨t168, bt173.1⟩ : S29)])) else (none)) else (spec_l7Draw.l0 k1 (wrap64 (x4_1 - 1)) s0_0 bt173.2 t149 t154 x160002_1)))) = some (r1, r2, r3, r4) := by first | (rw [hy170]; with_reducible exact H) | (have H2_ := (Option.bind_some _ _).symm.trans H; rw [hy170]; with_reducible exact H2_) | (have H2_ := (Option.bind_some _ _).symm.trans H; with_reducible exact H2_) | with_reducible exact H | (rw [hy170]; exact H) | exact H
    have Ny170 := Aside0.mk hy170
    clear hy170
    replace H := Option.bind_eq_some_iff.mp H
    obtain ⟨⟨t173, t174⟩, A270, H⟩ := H
    replace H : ((spec_l3Find.f k1 x160002_1 t168).bind fun t176 => (if t176 < 0 then (if x160002_1.length < 4398046511104 then (spec_l7Draw.l0 k1 (wrap64 (x4_1 - 1)) s0_0 t174 t149 t154 (x160002_1 ++ [(⟨t168, t173⟩ : S29)])) else (none)) else (spec_l7Draw.l0 k1 (wrap64 (x4_1 - 1)) s0_0 t174 t149 t154 x160002_1))) = some (r1, r2, r3, r4) := H
    have A27 := Aside0.mk A270
    clear A270
    replace H := Option.bind_eq_some_iff.mp H
    obtain ⟨t176, A280, H⟩ := H
    replace H : (if t176 < 0 then (if x160002_1.length < 4398046511104 then (spec_l7Draw.l0 k1 (wrap64 (x4_1 - 1)) s0_0 t174 t149 t154 (x160002_1 ++ [(⟨t168, t173⟩ : S29)])) else (none)) else (spec_l7Draw.l0 k1 (wrap64 (x4_1 - 1)) s0_0 t174 t149 t154 x160002_1)) = some (r1, r2, r3, r4) := H
    have A28 := Aside0.mk A280
    clear A280
    by_cases c29 : t176 < 0
    ·
     rw [if_pos c29] at H
     have c29b0 : decide (t176 < 0) = true := decide_eq_true c29
     clear c29
     by_cases c30 : x160002_1.length < 4398046511104
     ·
      rw [if_pos c30] at H
      have LMc30 := Aside0.mk c30
      clear c30
      obtain ⟨y177, hy177⟩ : ∃ y_ : List (S29), y_ = (x160002_1 ++ [(⟨t168, t173⟩ : S29)]) := ⟨_, rfl⟩
      replace H : (spec_l7Draw.l0 k1 (wrap64 (x4_1 - 1)) s0_0 t174 t149 t154 y177) = some (r1, r2, r3, r4) := by first | (rw [hy177]; with_reducible exact H) | (have H2_ := (Option.bind_some _ _).symm.trans H; rw [hy177]; with_reducible exact H2_) | (have H2_ := (Option.bind_some _ _).symm.trans H; with_reducible exact H2_) | with_reducible exact H | (rw [hy177]; exact H) | exact H
      have Ny177 := Aside0.mk hy177
      clear hy177
      have H' := Aside0.mk H
      clear H
      go_wp2_with (first | ((with_reducible refine gate_dst (N := 22) rfl ?_); refine Kd.R_lit Kd.string _ 9 ?hg (N := 22) ?hd (xs := ([(⟨#[99, 104, 97, 114, 115, 101, 116]⟩ : ByteArray), (⟨#[98, 111, 117, 110, 100, 97, 114, 121]⟩ : ByteArray), (⟨#[110, 97, 109, 101]⟩ : ByteArray), (⟨#[120]⟩ : ByteArray)] : List ByteArray)) (inner := [.string (⟨#[99, 104, 97, 114, 115, 101, 116]⟩ : ByteArray), .string (⟨#[98, 111, 117, 110, 100, 97, 114, 121]⟩ : ByteArray), .string (⟨#[110, 97, 109, 101]⟩ : ByteArray), .string (⟨#[120]⟩ : ByteArray)]) (ok := fun _ => True) (okp := fun _ => True) ?hr ?hp (fun _ hk => hk) trivial (Below.refl _ _) (Nat.le_refl _) (by simp) ?_; (case hd => rfl); (case hg => rfl); (case hr => first | (go_simp; done) | (go_simp; rfl)); (case hp => exact (Reps.one (show Kd.M Kd.string _ _ _ (⟨#[99, 104, 97, 114, 115, 101, 116]⟩ : ByteArray) [.string (⟨#[99, 104, 97, 114, 115, 101, 116]⟩ : ByteArray)] from rfl) (Reps.one (show Kd.M Kd.string _ _ _ (⟨#[98, 111, 117, 110, 100, 97, 114, 121]⟩ : ByteArray) [.string (⟨#[98, 111, 117, 110, 100, 97, 114, 121]⟩ : ByteArray)] from rfl) (Reps.one (show Kd.M Kd.string _ _ _ (⟨#[110, 97, 109, 101]⟩ : ByteArray) [.string (⟨#[110, 97, 109, 101]⟩ : ByteArray)] from rfl) (Reps.one (show Kd.M Kd.string _ _ _ (⟨#[120]⟩ : ByteArray) [.string (⟨#[120]⟩ : ByteArray)] from rfl) (Reps.none _ _)))))); intro v166 w31 ho32 hb hg_ hnew_; clear hg_ hnew_; (first | rw [← Ny165.out] at ho32 | (simp only [Int.reduceToNat] at ho32; rw [← Ny165.out] at ho32)); have n0_ := Aside0.mk (Kd.R_below (ur HO_160002.out) hb); have n1_ := Aside0.mk (Kd.R_lower ho32 (keep_size (w := w) (g := g) (row := none) (by repeat (first | (with_reducible first | exact HK.out | apply KeepBut.set_ | apply keep_drewN | apply keep_drew | apply keep_alloc | refine keep_far ?_ GW145.out _ | refine keep_far ?_ GW159.out _) | exact HK.out)))); have n2_ := Aside0.mk (blk_below (g := gb145) (o := .cells #[.string (⟨#[]⟩ : ByteArray), .string (⟨#[]⟩ : ByteArray), .slice none 0 0] 25 (0, 0)) (ub BK145.out) hb); have n3_ := Aside0.mk (blk_below (g := gb159) (o := .cells #[.string t149, .string t154, u160002] 25 (0, 0)) (ub BK159.out) hb); have n4_ := Aside0.mk (IsS62.below (by repeat (first | (with_reducible first | exact HI0.out | apply IsS62.alloc | apply IsS62.drewN | apply IsS62.drew | apply IsS62.set_1 | refine IsS62.far ?_ NB0_145.out _ | refine IsS62.far ?_ NB0_159.out _) | exact HI0.out)) hb); have n5_ := Aside0.mk (KeepBut.trans (by repeat (first | (with_reducible first | exact HK.out | apply KeepBut.set_ | apply keep_drewN | apply keep_drew | apply keep_alloc | refine keep_far ?_ GW145.out _ | refine keep_far ?_ GW159.out _) | exact HK.out)) (KeepBut.of_below hb g none) (.inl rfl)); have n6_ := Aside0.mk (below_step (by repeat (first | (with_reducible first | exact HB.out | apply below_alloc | apply pw_below_drewN | apply below_drew1 | refine below_set ?_ (IsS62.ge HI0.out) | refine below_set ?_ GE145.out | refine below_set ?_ GE159.out) | exact HB.out)) hb); clear HO_160002; clear BK145; clear BK159; clear HI0; clear HK; clear HB; have HO_160002 := n0_; have HO167 := n1_; have BK145 := n2_; have BK159 := n3_; have HI0 := n4_; have HK := n5_; have HB := n6_; clear n0_ n1_ n2_ n3_ n4_ n5_ n6_; clear hb ho32; obtain ⟨Ao33, co33, eo33⟩ := Kd.R_slice HO167.out; subst eo33) | ((with_reducible refine gate_callee (f := 42) rfl ?_); refine goesL_ (some 23) rfl rfl Tryd.func42 (by kernel_rfl) rfl #[.pointer (some ⟨g, 0, none⟩), .slice Ao33 y165.length co33] rfl ma ?_; (with_reducible refine (spec_l13Rd_of.calls k1 g s0_0 x1001_1 _ _ y165 t168 t169 w0 _ ?side1 ?side2 ?side3 ?side4 ?side5 A26.out).mono ?_); (case side1 => repeat (first | (with_reducible first | exact HI0.out | apply IsS62.alloc | apply IsS62.drewN | apply IsS62.drew | apply IsS62.set_1 | refine IsS62.far ?_ NB0_145.out _ | refine IsS62.far ?_ NB0_159.out _) | exact HI0.out)); (case side2 => repeat (first | (with_reducible first | exact HB.out | apply below_alloc | apply pw_below_drewN | apply below_drew1 | refine below_set ?_ (IsS62.ge HI0.out) | refine below_set ?_ GE145.out | refine below_set ?_ GE159.out) | exact HB.out)); (case side3 => repeat (first | exact (Kd.R_reads' HO167.out).2.2 | (with_reducible refine Kd.C_alloc ?_ _) | (with_reducible refine Kd.C_drewN ?_ _) | (with_reducible refine Kd.C_drew ?_))); (case side4 => exact (Kd.R_reads' HO167.out).2.1); (case side5 => exact far_slice (IsS62.own_ne HI0.out HO167.out (by decide))); rintro e w34 ⟨rfl, hi, hb, hk⟩; refine ⟨_, rfl, ?_⟩; have n0_ := Aside0.mk (Kd.R_mono (Kd.R_keep (IsS62.apart (show IsS62 w0 _ g s0_0 x1001_1 from by repeat (first | (with_reducible first | exact HI0.out | apply IsS62.alloc | apply IsS62.drewN | apply IsS62.drew | apply IsS62.set_1 | refine IsS62.far ?_ NB0_145.out _ | refine IsS62.far ?_ NB0_159.out _) | exact HI0.out)) (ur HO_160002.out) (by decide)) hk (fun _ h => h.2)) (fun _ h => h.1)); have n1_ := Aside0.mk (KeepBut.blk hk (g' := gb145) (o := .cells #[.string (⟨#[]⟩ : ByteArray), .string (⟨#[]⟩ : ByteArray), .slice none 0 0] 25 (0, 0)) (ub BK145.out) NB145_0.out (by simp)); have n2_ := Aside0.mk (KeepBut.blk hk (g' := gb159) (o := .cells #[.string t149, .string t154, u160002] 25 (0, 0)) (ub BK159.out) NB159_0.out (by simp)); have n3_ := Aside0.mk (Kd.R_mono (Kd.R_keep (IsS62.apart (show IsS62 w0 _ g s0_0 x1001_1 from by repeat (first | (with_reducible first | exact HI0.out | apply IsS62.alloc | apply IsS62.drewN | apply IsS62.drew | apply IsS62.set_1 | refine IsS62.far ?_ NB0_145.out _ | refine IsS62.far ?_ NB0_159.out _) | exact HI0.out)) (ur HO167.out) (by decide)) hk (fun _ h => h.2)) (fun _ h => h.1)); have n4_ := Aside0.mk (KeepBut.trans (by repeat (first | (with_reducible first | exact HK.out | apply KeepBut.set_ | apply keep_drewN | apply keep_drew | apply keep_alloc | refine keep_far ?_ GW145.out _ | refine keep_far ?_ GW159.out _) | exact HK.out)) hk (.inl rfl)); have n5_ := Aside0.mk (hb); have n6_ := Aside0.mk (hi); clear HO_160002; clear BK145; clear BK159; clear HO167; clear HK; clear HB; clear HI0; have HO_160002 := n0_; have BK145 := n1_; have BK159 := n2_; have HO167 := n3_; have HK := n4_; have HB := n5_; have HI0 := n6_; clear n0_ n1_ n2_ n3_ n4_ n5_ n6_; (try clear hb); (try clear hb2); (try clear hk); (try clear hi)) | ((with_reducible refine gate_dst (N := 25) rfl ?_); refine Kd.R_lit Kd.string _ 9 ?hg (N := 25) ?hd (xs := ([(⟨#[117, 116, 102, 45, 56]⟩ : ByteArray), (⟨#[98, 48]⟩ : ByteArray), (⟨#[97, 32, 98]⟩ : ByteArray), (⟨#[113, 34, 122]⟩ : ByteArray), (⟨#[]⟩ : ByteArray), (⟨#[98, 59, 99]⟩ : ByteArray), (⟨#[120, 121, 122]⟩ : ByteArray)] : List ByteArray)) (inner := [.string (⟨#[117, 116, 102, 45, 56]⟩ : ByteArray), .string (⟨#[98, 48]⟩ : ByteArray), .string (⟨#[97, 32, 98]⟩ : ByteArray), .string (⟨#[113, 34, 122]⟩ : ByteArray), .string (⟨#[]⟩ : ByteArray), .string (⟨#[98, 59, 99]⟩ : ByteArray), .string (⟨#[120, 121, 122]⟩ : ByteArray)]) (ok := fun _ => True) (okp := fun _ => True) ?hr ?hp (fun _ hk => hk) trivial (Below.refl _ _) (Nat.le_refl _) (by simp) ?_; (case hd => rfl); (case hg => rfl); (case hr => first | (go_simp; done) | (go_simp; rfl)); (case hp => exact (Reps.one (show Kd.M Kd.string _ _ _ (⟨#[117, 116, 102, 45, 56]⟩ : ByteArray) [.string (⟨#[117, 116, 102, 45, 56]⟩ : ByteArray)] from rfl) (Reps.one (show Kd.M Kd.string _ _ _ (⟨#[98, 48]⟩ : ByteArray) [.string (⟨#[98, 48]⟩ : ByteArray)] from rfl) (Reps.one (show Kd.M Kd.string _ _ _ (⟨#[97, 32, 98]⟩ : ByteArray) [.string (⟨#[97, 32, 98]⟩ : ByteArray)] from rfl) (Reps.one (show Kd.M Kd.string _ _ _ (⟨#[113, 34, 122]⟩ : ByteArray) [.string (⟨#[113, 34, 122]⟩ : ByteArray)] from rfl) (Reps.one (show Kd.M Kd.string _ _ _ (⟨#[]⟩ : ByteArray) [.string (⟨#[]⟩ : ByteArray)] from rfl) (Reps.one (show Kd.M Kd.string _ _ _ (⟨#[98, 59, 99]⟩ : ByteArray) [.string (⟨#[98, 59, 99]⟩ : ByteArray)] from rfl) (Reps.one (show Kd.M Kd.string _ _ _ (⟨#[120, 121, 122]⟩ : ByteArray) [.string (⟨#[120, 121, 122]⟩ : ByteArray)] from rfl) (Reps.none _ _))))))))); intro v171 w35 ho36 hb hg_ hnew_; clear hg_ hnew_; (first | rw [← Ny170.out] at ho36 | (simp only [Int.reduceToNat] at ho36; rw [← Ny170.out] at ho36)); have n0_ := Aside0.mk (Kd.R_below (ur HO_160002.out) hb); have n1_ := Aside0.mk (Kd.R_elder' (ur HO167.out) (Kd.R_base ho36) hb); have n2_ := Aside0.mk (Kd.R_lower (Kd.R_new' ho36 (Kd.R_lt (ur HO167.out))) (keep_size (w := w) (g := g) (row := none) (by repeat (first | (with_reducible first | exact HK.out | apply KeepBut.set_ | apply keep_drewN | apply keep_drew | apply keep_alloc | refine keep_far ?_ GW145.out _ | refine keep_far ?_ GW159.out _) | exact HK.out)))); have n3_ := Aside0.mk (blk_below (g := gb145) (o := .cells #[.string (⟨#[]⟩ : ByteArray), .string (⟨#[]⟩ : ByteArray), .slice none 0 0] 25 (0, 0)) (ub BK145.out) hb); have n4_ := Aside0.mk (blk_below (g := gb159) (o := .cells #[.string t149, .string t154, u160002] 25 (0, 0)) (ub BK159.out) hb); have n5_ := Aside0.mk (IsS62.below (by repeat (first | (with_reducible first | exact HI0.out | apply IsS62.alloc | apply IsS62.drewN | apply IsS62.drew | apply IsS62.set_1 | refine IsS62.far ?_ NB0_145.out _ | refine IsS62.far ?_ NB0_159.out _) | exact HI0.out)) hb); have n6_ := Aside0.mk (KeepBut.trans (by repeat (first | (with_reducible first | exact HK.out | apply KeepBut.set_ | apply keep_drewN | apply keep_drew | apply keep_alloc | refine keep_far ?_ GW145.out _ | refine keep_far ?_ GW159.out _) | exact HK.out)) (KeepBut.of_below hb g none) (.inl rfl)); have n7_ := Aside0.mk (below_step (by repeat (first | (with_reducible first | exact HB.out | apply below_alloc | apply pw_below_drewN | apply below_drew1 | refine below_set ?_ (IsS62.ge HI0.out) | refine below_set ?_ GE145.out | refine below_set ?_ GE159.out) | exact HB.out)) hb); clear HO_160002; clear HO167; clear BK145; clear BK159; clear HI0; clear HK; clear HB; have HO_160002 := n0_; have HO167 := n1_; have HO172 := n2_; have BK145 := n3_; have BK159 := n4_; have HI0 := n5_; have HK := n6_; have HB := n7_; clear n0_ n1_ n2_ n3_ n4_ n5_ n6_ n7_; clear hb ho36; obtain ⟨Ao37, co37, eo37⟩ := Kd.R_slice HO172.out; subst eo37) | ((with_reducible refine gate_callee (f := 42) rfl ?_); refine goesL_ (some 26) rfl rfl Tryd.func42 (by kernel_rfl) rfl #[.pointer (some ⟨g, 0, none⟩), .slice Ao37 y170.length co37] rfl ma ?_; (with_reducible refine (spec_l13Rd_of.calls k1 g s0_0 t169 _ _ y170 t173 t174 w0 _ ?side1 ?side2 ?side3 ?side4 ?side5 A27.out).mono ?_); (case side1 => repeat (first | (with_reducible first | exact HI0.out | apply IsS62.alloc | apply IsS62.drewN | apply IsS62.drew | apply IsS62.set_1 | refine IsS62.far ?_ NB0_145.out _ | refine IsS62.far ?_ NB0_159.out _) | exact HI0.out)); (case side2 => repeat (first | (with_reducible first | exact HB.out | apply below_alloc | apply pw_below_drewN | apply below_drew1 | refine below_set ?_ (IsS62.ge HI0.out) | refine below_set ?_ GE145.out | refine below_set ?_ GE159.out) | exact HB.out)); (case side3 => repeat (first | exact (Kd.R_reads' HO172.out).2.2 | (with_reducible refine Kd.C_alloc ?_ _) | (with_reducible refine Kd.C_drewN ?_ _) | (with_reducible refine Kd.C_drew ?_))); (case side4 => exact (Kd.R_reads' HO172.out).2.1); (case side5 => exact far_slice (IsS62.own_ne HI0.out HO172.out (by decide))); rintro e w38 ⟨rfl, hi, hb, hk⟩; refine ⟨_, rfl, ?_⟩; have n0_ := Aside0.mk (Kd.R_mono (Kd.R_keep (IsS62.apart (show IsS62 w0 _ g s0_0 t169 from by repeat (first | (with_reducible first | exact HI0.out | apply IsS62.alloc | apply IsS62.drewN | apply IsS62.drew | apply IsS62.set_1 | refine IsS62.far ?_ NB0_145.out _ | refine IsS62.far ?_ NB0_159.out _) | exact HI0.out)) (ur HO_160002.out) (by decide)) hk (fun _ h => h.2)) (fun _ h => h.1)); have n1_ := Aside0.mk (KeepBut.blk hk (g' := gb145) (o := .cells #[.string (⟨#[]⟩ : ByteArray), .string (⟨#[]⟩ : ByteArray), .slice none 0 0] 25 (0, 0)) (ub BK145.out) NB145_0.out (by simp)); have n2_ := Aside0.mk (KeepBut.blk hk (g' := gb159) (o := .cells #[.string t149, .string t154, u160002] 25 (0, 0)) (ub BK159.out) NB159_0.out (by simp)); have n3_ := Aside0.mk (Kd.R_mono (Kd.R_keep (IsS62.apart (show IsS62 w0 _ g s0_0 t169 from by repeat (first | (with_reducible first | exact HI0.out | apply IsS62.alloc | apply IsS62.drewN | apply IsS62.drew | apply IsS62.set_1 | refine IsS62.far ?_ NB0_145.out _ | refine IsS62.far ?_ NB0_159.out _) | exact HI0.out)) (ur HO167.out) (by decide)) hk (fun _ h => h.2)) (fun _ h => h.1)); have n4_ := Aside0.mk (Kd.R_mono (Kd.R_keep (IsS62.apart (show IsS62 w0 _ g s0_0 t169 from by repeat (first | (with_reducible first | exact HI0.out | apply IsS62.alloc | apply IsS62.drewN | apply IsS62.drew | apply IsS62.set_1 | refine IsS62.far ?_ NB0_145.out _ | refine IsS62.far ?_ NB0_159.out _) | exact HI0.out)) (ur HO172.out) (by decide)) hk (fun _ h => h.2)) (fun _ h => h.1)); have n5_ := Aside0.mk (KeepBut.trans (by repeat (first | (with_reducible first | exact HK.out | apply KeepBut.set_ | apply keep_drewN | apply keep_drew | apply keep_alloc | refine keep_far ?_ GW145.out _ | refine keep_far ?_ GW159.out _) | exact HK.out)) hk (.inl rfl)); have n6_ := Aside0.mk (hb); have n7_ := Aside0.mk (hi); clear HO_160002; clear BK145; clear BK159; clear HO167; clear HO172; clear HK; clear HB; clear HI0; have HO_160002 := n0_; have BK145 := n1_; have BK159 := n2_; have HO167 := n3_; have HO172 := n4_; have HK := n5_; have HB := n6_; have HI0 := n7_; clear n0_ n1_ n2_ n3_ n4_ n5_ n6_ n7_; (try clear hb); (try clear hb2); (try clear hk); (try clear hi)) | ((with_reducible refine gate_dst (N := 5) rfl ?_); refine box_event ?hg (N := 5) ?hd (cs := #[.string (⟨#[]⟩ : ByteArray), .string (⟨#[]⟩ : ByteArray)]) (t := 29) ?hr ?_; (case hd => rfl); (case hg => rfl); (case hr => first | (go_simp; done) | (go_simp; rfl)); intro gb175 hg w39 hbox hb; have n0_ := Aside0.mk (Kd.R_below (Kd.R_elderB (ur HO_160002.out) gb175 (Nat.le_of_eq hg.symm)) hb); have n1_ := Aside0.mk (Kd.R_below (ur HO167.out) hb); have n2_ := Aside0.mk (Kd.R_below (ur HO172.out) hb); have n3_ := Aside0.mk (blk_below (g := gb145) (o := .cells #[.string (⟨#[]⟩ : ByteArray), .string (⟨#[]⟩ : ByteArray), .slice none 0 0] 25 (0, 0)) (ub BK145.out) hb); have n4_ := Aside0.mk (blk_below (g := gb159) (o := .cells #[.string t149, .string t154, u160002] 25 (0, 0)) (ub BK159.out) hb); have n5_ := Aside0.mk (IsS62.below (by repeat (first | (with_reducible first | exact HI0.out | apply IsS62.alloc | apply IsS62.drewN | apply IsS62.drew | apply IsS62.set_1 | refine IsS62.far ?_ NB0_145.out _ | refine IsS62.far ?_ NB0_159.out _) | exact HI0.out)) hb); have n6_ := Aside0.mk (KeepBut.trans (by repeat (first | (with_reducible first | exact HK.out | apply KeepBut.set_ | apply keep_drewN | apply keep_drew | apply keep_alloc | refine keep_far ?_ GW145.out _ | refine keep_far ?_ GW159.out _) | exact HK.out)) (KeepBut.of_below hb g none) (.inl rfl)); have n7_ := Aside0.mk (below_step (by repeat (first | (with_reducible first | exact HB.out | apply below_alloc | apply pw_below_drewN | apply below_drew1 | refine below_set ?_ (IsS62.ge HI0.out) | refine below_set ?_ GE145.out | refine below_set ?_ GE159.out) | exact HB.out)) hb); have n8_ := Aside0.mk (hbox); have n9_ := Aside0.mk ((by rw [hg]; exact (keep_size (w := w) (g := g) (row := none) (by repeat (first | (with_reducible first | exact HK.out | apply KeepBut.set_ | apply keep_drewN | apply keep_drew | apply keep_alloc | refine keep_far ?_ GW145.out _ | refine keep_far ?_ GW159.out _) | exact HK.out))) : w.heap.size ≤ gb175)); have n10_ := Aside0.mk ((Nat.le_trans HW0.out (by rw [hg]; exact (keep_size (w := w) (g := g) (row := none) (by repeat (first | (with_reducible first | exact HK.out | apply KeepBut.set_ | apply keep_drewN | apply keep_drew | apply keep_alloc | refine keep_far ?_ GW145.out _ | refine keep_far ?_ GW159.out _) | exact HK.out))) : w.heap.size ≤ gb175) : w0.heap.size ≤ gb175)); have n11_ := Aside0.mk ((by rw [hg]; exact Nat.ne_of_lt (blk_lt (g := gb145) (o := .cells #[.string (⟨#[]⟩ : ByteArray), .string (⟨#[]⟩ : ByteArray), .slice none 0 0] 25 (0, 0)) (ub BK145.out)) : gb145 ≠ gb175)); have n12_ := Aside0.mk ((by rw [hg]; exact Nat.ne_of_gt (blk_lt (g := gb145) (o := .cells #[.string (⟨#[]⟩ : ByteArray), .string (⟨#[]⟩ : ByteArray), .slice none 0 0] 25 (0, 0)) (ub BK145.out)) : gb175 ≠ gb145)); have n13_ := Aside0.mk ((by rw [hg]; exact Nat.ne_of_lt (blk_lt (g := gb159) (o := .cells #[.string t149, .string t154, u160002] 25 (0, 0)) (ub BK159.out)) : gb159 ≠ gb175)); have n14_ := Aside0.mk ((by rw [hg]; exact Nat.ne_of_gt (blk_lt (g := gb159) (o := .cells #[.string t149, .string t154, u160002] 25 (0, 0)) (ub BK159.out)) : gb175 ≠ gb159)); have n15_ := Aside0.mk ((by rw [hg]; exact Nat.ne_of_lt (IsS62.lt (show IsS62 w0 _ g s0_0 t174 from by repeat (first | (with_reducible first | exact HI0.out | apply IsS62.alloc | apply IsS62.drewN | apply IsS62.drew | apply IsS62.set_1 | refine IsS62.far ?_ NB0_145.out _ | refine IsS62.far ?_ NB0_159.out _) | exact HI0.out))) : g ≠ gb175)); have n16_ := Aside0.mk ((by rw [hg]; exact Nat.ne_of_gt (IsS62.lt (show IsS62 w0 _ g s0_0 t174 from by repeat (first | (with_reducible first | exact HI0.out | apply IsS62.alloc | apply IsS62.drewN | apply IsS62.drew | apply IsS62.set_1 | refine IsS62.far ?_ NB0_145.out _ | refine IsS62.far ?_ NB0_159.out _) | exact HI0.out))) : gb175 ≠ g)); clear HO_160002; clear HO167; clear HO172; clear BK145; clear BK159; clear HI0; clear HK; clear HB; have HO_160002 := n0_; have HO167 := n1_; have HO172 := n2_; have BK145 := n3_; have BK159 := n4_; have HI0 := n5_; have HK := n6_; have HB := n7_; have BK175 := n8_; have GW175 := n9_; have GE175 := n10_; have NB145_175 := n11_; have NB175_145 := n12_; have NB159_175 := n13_; have NB175_159 := n14_; have NB0_175 := n15_; have NB175_0 := n16_; clear n0_ n1_ n2_ n3_ n4_ n5_ n6_ n7_ n8_ n9_ n10_ n11_ n12_ n13_ n14_ n15_ n16_; clear hb hbox hg; have hnb40 := NB175_145.out; have hnc40 := NB145_175.out; have hnb41 := NB175_159.out; have hnc41 := NB159_175.out; have hnb42 := NB175_0.out; have hnc42 := NB0_175.out; have hcz43_0 : w39.cell? ⟨gb175, 0, none⟩ = some (.string (⟨#[]⟩ : ByteArray)) := (blk_cell BK175.out 0).trans rfl; have hcz43_1 : w39.cell? ⟨gb175, 1, none⟩ = some (.string (⟨#[]⟩ : ByteArray)) := (blk_cell BK175.out 1).trans rfl; have hfz43_0 := blk_frozen BK175.out 0; have hfz43_1 := blk_frozen BK175.out 1; have hnb44 := NB159_145.out; have hnc44 := NB145_159.out; have hnb45 := NB159_0.out; have hnc45 := NB0_159.out; have hcz46_0 : w39.cell? ⟨gb159, 0, none⟩ = some (.string t149) := (blk_cell BK159.out 0).trans rfl; have hcz46_1 : w39.cell? ⟨gb159, 1, none⟩ = some (.string t154) := (blk_cell BK159.out 1).trans rfl; have hcz46_2 : w39.cell? ⟨gb159, 2, none⟩ = some (u160002) := (blk_cell BK159.out 2).trans rfl; have hfz46_0 := blk_frozen BK159.out 0; have hfz46_1 := blk_frozen BK159.out 1; have hfz46_2 := blk_frozen BK159.out 2; obtain ⟨Ao47, co47, eo47⟩ := Kd.R_slice HO_160002.out; subst eo47) | ((with_reducible refine gate_callee (f := 33) rfl ?_); refine goesL_ (some 32) rfl rfl Tryd.func33 (by kernel_rfl) rfl #[.slice Ao47 x160002_1.length co47, .string t168] rfl ma ?_; (with_reducible refine (spec_l3Find.calls k1 _ _ x160002_1 t168 t176 _ ?side1 ?side2 A28.out).mono ?_); (case side1 => refine (Kd.R_reads' (e := 29) (base := w.heap.size) (ok := fun k_ => (True ∧ k_ ≠ gb175)) (n := x160002_1.length) (c := co47) ?_).2.2; exact (ur (Kd.R_mono (Kd.R_far (p := ⟨gb175, 1, none⟩) (Kd.R_far (p := ⟨gb175, 0, none⟩) (Kd.R_mono HO_160002.out (fun k_ hk => (⟨hk, hk.2⟩ : _ ∧ k_ ≠ gb175))) (fun _ hk => hk.2) (.string t168)) (fun _ hk => hk.2) (.string t173)) (fun _ h_ => h_.1)))); (case side2 => exact (Kd.R_reads' HO_160002.out).2.1); rintro e w48 ⟨rfl, hb⟩; refine ⟨_, rfl, ?_⟩; have n0_ := Aside0.mk (Kd.R_below (ur (Kd.R_mono (Kd.R_far (p := ⟨gb175, 1, none⟩) (Kd.R_far (p := ⟨gb175, 0, none⟩) (Kd.R_mono HO_160002.out (fun k_ hk => (⟨hk, hk.2⟩ : _ ∧ k_ ≠ gb175))) (fun _ hk => hk.2) (.string t168)) (fun _ hk => hk.2) (.string t173)) (fun _ h_ => h_.1))) hb); have n1_ := Aside0.mk (Kd.R_below (ur (Kd.R_mono (Kd.R_far (p := ⟨gb175, 1, none⟩) (Kd.R_far (p := ⟨gb175, 0, none⟩) (Kd.R_types HO167.out BK175.out (by decide)) (fun _ hk => hk.2) (.string t168)) (fun _ hk => hk.2) (.string t173)) (fun _ h_ => h_.1))) hb); have n2_ := Aside0.mk (Kd.R_below (ur (Kd.R_mono (Kd.R_far (p := ⟨gb175, 1, none⟩) (Kd.R_far (p := ⟨gb175, 0, none⟩) (Kd.R_types HO172.out BK175.out (by decide)) (fun _ hk => hk.2) (.string t168)) (fun _ hk => hk.2) (.string t173)) (fun _ h_ => h_.1))) hb); have n3_ := Aside0.mk (blk_below (g := gb145) (o := .cells #[.string (⟨#[]⟩ : ByteArray), .string (⟨#[]⟩ : ByteArray), .slice none 0 0] 25 (0, 0)) (by (with_reducible repeat (first | refine blk_drewN ?_ _ | refine blk_drew ?_ | refine blk_alloc ?_ _)); refine blk_far ?_ NB145_175.out _; (with_reducible repeat (first | refine blk_drewN ?_ _ | refine blk_drew ?_ | refine blk_alloc ?_ _)); refine blk_far ?_ NB145_175.out _; (with_reducible repeat (first | refine blk_drewN ?_ _ | refine blk_drew ?_ | refine blk_alloc ?_ _)); exact BK145.out) hb); have n4_ := Aside0.mk (blk_below (g := gb159) (o := .cells #[.string t149, .string t154, .slice Ao47 x160002_1.length co47] 25 (0, 0)) (by (with_reducible repeat (first | refine blk_drewN ?_ _ | refine blk_drew ?_ | refine blk_alloc ?_ _)); refine blk_far ?_ NB159_175.out _; (with_reducible repeat (first | refine blk_drewN ?_ _ | refine blk_drew ?_ | refine blk_alloc ?_ _)); refine blk_far ?_ NB159_175.out _; (with_reducible repeat (first | refine blk_drewN ?_ _ | refine blk_drew ?_ | refine blk_alloc ?_ _)); exact BK159.out) hb); have n5_ := Aside0.mk (IsS62.below (show IsS62 w0 ((w39.setCell ⟨gb175, 0, none⟩ (.string t168)).setCell ⟨gb175, 1, none⟩ (.string t173)) g s0_0 t174 from by repeat (first | (with_reducible first | exact HI0.out | apply IsS62.alloc | apply IsS62.drewN | apply IsS62.drew | apply IsS62.set_1 | refine IsS62.far ?_ NB0_145.out _ | refine IsS62.far ?_ NB0_159.out _ | refine IsS62.far ?_ NB0_175.out _) | exact HI0.out)) hb); have n6_ := Aside0.mk (blk_below (g := gb175) (o := .cells #[.string t168, .string t173] 29 (0, 0)) (by (with_reducible repeat (first | refine blk_drewN ?_ _ | refine blk_drew ?_ | refine blk_alloc ?_ _)); refine blk_put (cs := #[.string t168, .string (⟨#[]⟩ : ByteArray)]) ?_ 1 _ rfl; (with_reducible repeat (first | refine blk_drewN ?_ _ | refine blk_drew ?_ | refine blk_alloc ?_ _)); refine blk_put (cs := #[.string (⟨#[]⟩ : ByteArray), .string (⟨#[]⟩ : ByteArray)]) ?_ 0 _ rfl; (with_reducible repeat (first | refine blk_drewN ?_ _ | refine blk_drew ?_ | refine blk_alloc ?_ _)); exact BK175.out) hb); have n7_ := Aside0.mk (KeepBut.trans (by repeat (first | (with_reducible first | exact HK.out | apply KeepBut.set_ | apply keep_drewN | apply keep_drew | apply keep_alloc | refine keep_far ?_ GW145.out _ | refine keep_far ?_ GW159.out _ | refine keep_far ?_ GW175.out _) | exact HK.out)) (KeepBut.of_below hb g none) (.inl rfl)); have n8_ := Aside0.mk (below_step (by repeat (first | (with_reducible first | exact HB.out | apply below_alloc | apply pw_below_drewN | apply below_drew1 | refine below_set ?_ (IsS62.ge HI0.out) | refine below_set ?_ GE145.out | refine below_set ?_ GE159.out | refine below_set ?_ GE175.out) | exact HB.out)) hb); clear HO_160002; clear HO167; clear HO172; clear BK145; clear BK159; clear HI0; clear BK175; clear HK; clear HB; have HO_160002 := n0_; have HO167 := n1_; have HO172 := n2_; have BK145 := n3_; have BK159 := n4_; have HI0 := n5_; have BK175 := n6_; have HK := n7_; have HB := n8_; clear n0_ n1_ n2_ n3_ n4_ n5_ n6_ n7_ n8_; (try clear hb); (try clear hb2); (try clear hk); (try clear hi); have hcz49_0 : w48.cell? ⟨gb159, 0, none⟩ = some (.string t149) := (blk_cell BK159.out 0).trans rfl; have hcz49_1 : w48.cell? ⟨gb159, 1, none⟩ = some (.string t154) := (blk_cell BK159.out 1).trans rfl; have hcz49_2 : w48.cell? ⟨gb159, 2, none⟩ = some (.slice Ao47 x160002_1.length co47) := (blk_cell BK159.out 2).trans rfl; have hfz49_0 := blk_frozen BK159.out 0; have hfz49_1 := blk_frozen BK159.out 1; have hfz49_2 := blk_frozen BK159.out 2; have hcz50_0 : w48.cell? ⟨gb175, 0, none⟩ = some (.string t168) := (blk_cell BK175.out 0).trans rfl; have hcz50_1 : w48.cell? ⟨gb175, 1, none⟩ = some (.string t173) := (blk_cell BK175.out 1).trans rfl; have hfz50_0 := blk_frozen BK175.out 0; have hfz50_1 := blk_frozen BK175.out 1) | ((with_reducible refine gate_builtin (b := .append) (xs := #[.tmp 35, .tmp 37]) rfl ?_); at_builtin; refine Kd.R_append k29 w.heap.size rfl (.tmp 35) (.tmp 37) 23 29 (.agg #[(.string ⟨#[]⟩), (.string ⟨#[]⟩)]) 32 rfl Tryd.underlying23 info29 rfl (by decide) (by omega) (.slice Ao47 x160002_1.length co47) x160002_1 (⟨t168, t173⟩ : S29) [.string t168, .string t173] (fun k_ => k_ ≠ gb175) (fun _ => False) rfl rfl ?aP (fun _ hk => hk.elim) ?aF ?aO (Below.refl _ _) ?aS ?aL ?_; (case aP => exact k29_mkM _ _ _ (⟨t168, t173⟩ : S29)); (case aF => exact (fun k_ hk => Kd.freshB (g := gb175) (o := .cells #[.string t168, .string t173] 29 (0, 0)) (ub BK175.out) k_ hk)); (case aO => exact (by (with_reducible repeat (first | apply Kd.R_alloc | apply Kd.R_drewN | apply Kd.R_drew)); exact Kd.R_mono HO_160002.out (fun _ hk => hk.2))); (case aS => exact (keep_size (w := w) (g := g) (row := none) (by repeat (first | (with_reducible first | exact HK.out | apply KeepBut.set_ | apply keep_drewN | apply keep_drew | apply keep_alloc | refine keep_far ?_ GW145.out _ | refine keep_far ?_ GW159.out _ | refine keep_far ?_ GW175.out _) | exact HK.out)))); (case aL => have := LMc30.out; omega); intro v178 w51 ho hb hg hat; rw [← Ny177.out] at ho; have n0_ := Aside0.mk (blk_grown (g := gb145) (o := .cells #[.string (⟨#[]⟩ : ByteArray), .string (⟨#[]⟩ : ByteArray), .slice none 0 0] 25 (0, 0)) (ub BK145.out) hg (Kd.R_ne HO_160002.out BK145.out (by decide))); have n1_ := Aside0.mk (blk_grown (g := gb159) (o := .cells #[.string t149, .string t154, .slice Ao47 x160002_1.length co47] 25 (0, 0)) (ub BK159.out) hg (Kd.R_ne HO_160002.out BK159.out (by decide))); have n2_ := Aside0.mk (IsS62.grown (by repeat (first | (with_reducible first | exact HI0.out | apply IsS62.alloc | apply IsS62.drewN | apply IsS62.drew | apply IsS62.set_1 | refine IsS62.far ?_ NB0_145.out _ | refine IsS62.far ?_ NB0_159.out _ | refine IsS62.far ?_ NB0_175.out _) | exact HI0.out)) hg (IsS62.own_ne HI0.out HO_160002.out (by decide))); have n3_ := Aside0.mk (Kd.R_over' (ur HO167.out) (Kd.R_typed (ur HO_160002.out)) (by decide) hg); have n4_ := Aside0.mk (Kd.R_over' (ur HO172.out) (Kd.R_typed (ur HO_160002.out)) (by decide) hg); have n5_ := Aside0.mk (blk_grown (g := gb175) (o := .cells #[.string t168, .string t173] 29 (0, 0)) (ub BK175.out) hg (Kd.R_away HO_160002.out (fun _ hk => hk.2))); have n6_ := Aside0.mk (below_weaken (by repeat (first | (with_reducible first | exact HB.out | apply below_alloc | apply pw_below_drewN | apply below_drew1 | refine below_set ?_ (IsS62.ge HI0.out) | refine below_set ?_ GE145.out | refine below_set ?_ GE159.out | refine below_set ?_ GE175.out) | exact HB.out)) HL.out hb); have n7_ := Aside0.mk (KeepBut.trans (by repeat (first | (with_reducible first | exact HK.out | apply KeepBut.set_ | apply keep_drewN | apply keep_drew | apply keep_alloc | refine keep_far ?_ GW145.out _ | refine keep_far ?_ GW159.out _ | refine keep_far ?_ GW175.out _) | exact HK.out)) (KeepBut.of_grown hg g) (Kd.R_base2 HO_160002.out)); have n8_ := Aside0.mk (ho); clear BK145; clear BK159; clear HI0; clear HO167; clear HO172; clear BK175; clear HB; clear HK; clear HO_160002; have BK145 := n0_; have BK159 := n1_; have HI0 := n2_; have HO167 := n3_; have HO172 := n4_; have BK175 := n5_; have HB := n6_; have HK := n7_; have HO179 := n8_; clear n0_ n1_ n2_ n3_ n4_ n5_ n6_ n7_ n8_; clear ho hb hg hat; obtain ⟨Ao52, co52, eo52⟩ := Kd.R_slice HO179.out; subst eo52; have hcz53_0 : w51.cell? ⟨gb159, 0, none⟩ = some (.string t149) := (blk_cell BK159.out 0).trans rfl; have hcz53_1 : w51.cell? ⟨gb159, 1, none⟩ = some (.string t154) := (blk_cell BK159.out 1).trans rfl; have hcz53_2 : w51.cell? ⟨gb159, 2, none⟩ = some (.slice Ao47 x160002_1.length co47) := (blk_cell BK159.out 2).trans rfl; have hfz53_0 := blk_frozen BK159.out 0; have hfz53_1 := blk_frozen BK159.out 1; have hfz53_2 := blk_frozen BK159.out 2))
      go_roundg k1
      case measure => have := HK1.out; omega
      case rel => exact ⟨(wrap64 (x4_1 - 1)), (t174), (y177), (.slice Ao52 y177.length co52), (by first | rfl | (simp; done) | (simp [*]; done)), H', ⟨by have := HK1.out; omega⟩, ⟨by (with_reducible repeat (first | apply Kd.R_alloc | apply Kd.R_drewN | apply Kd.R_drew)); exact Kd.R_mono (Kd.R_far (p := ⟨gb159, 2, none⟩) (Kd.R_types HO179.out BK159.out (by decide)) (fun _ hk => hk.2) (.slice Ao52 y177.length co52)) (fun _ hk => trivial)⟩, ⟨by (with_reducible repeat (first | refine blk_drewN ?_ _ | refine blk_drew ?_ | refine blk_alloc ?_ _)); refine blk_far ?_ NB145_159.out _; (with_reducible repeat (first | refine blk_drewN ?_ _ | refine blk_drew ?_ | refine blk_alloc ?_ _)); exact BK145.out⟩, ⟨by (with_reducible repeat (first | refine blk_drewN ?_ _ | refine blk_drew ?_ | refine blk_alloc ?_ _)); refine blk_put (cs := #[.string t149, .string t154, .slice Ao47 x160002_1.length co47]) ?_ 2 _ rfl; (with_reducible repeat (first | refine blk_drewN ?_ _ | refine blk_drew ?_ | refine blk_alloc ?_ _)); exact BK159.out⟩, ⟨by repeat (first | (with_reducible first | exact HI0.out | apply IsS62.alloc | apply IsS62.drewN | apply IsS62.drew | apply IsS62.set_1 | refine IsS62.far ?_ NB0_145.out _ | refine IsS62.far ?_ NB0_159.out _ | refine IsS62.far ?_ NB0_175.out _) | exact HI0.out)⟩, ⟨by repeat (first | (with_reducible first | exact HK.out | apply KeepBut.set_ | apply keep_drewN | apply keep_drew | apply keep_alloc | refine keep_far ?_ GW145.out _ | refine keep_far ?_ GW159.out _ | refine keep_far ?_ GW175.out _) | exact HK.out)⟩, ⟨by repeat (first | (with_reducible first | exact HB.out | apply below_alloc | apply pw_below_drewN | apply below_drew1 | refine below_set ?_ (IsS62.ge HI0.out) | refine below_set ?_ GE145.out | refine below_set ?_ GE159.out | refine below_set ?_ GE175.out) | exact HB.out)⟩⟩
     ·
      rw [if_neg c30] at H
      exact absurd H (by simp)
    ·
     rw [if_neg c29] at H
     have c29b0 : decide (t176 < 0) = false := decide_eq_false c29
     clear c29
     have H' := Aside0.mk H
     clear H
     go_wp2_with (first | ((with_reducible refine gate_dst (N := 22) rfl ?_); refine Kd.R_lit Kd.string _ 9 ?hg (N := 22) ?hd (xs := ([(⟨#[99, 104, 97, 114, 115, 101, 116]⟩ : ByteArray), (⟨#[98, 111, 117, 110, 100, 97, 114, 121]⟩ : ByteArray), (⟨#[110, 97, 109, 101]⟩ : ByteArray), (⟨#[120]⟩ : ByteArray)] : List ByteArray)) (inner := [.string (⟨#[99, 104, 97, 114, 115, 101, 116]⟩ : ByteArray), .string (⟨#[98, 111, 117, 110, 100, 97, 114, 121]⟩ : ByteArray), .string (⟨#[110, 97, 109, 101]⟩ : ByteArray), .string (⟨#[120]⟩ : ByteArray)]) (ok := fun _ => True) (okp := fun _ => True) ?hr ?hp (fun _ hk => hk) trivial (Below.refl _ _) (Nat.le_refl _) (by simp) ?_; (case hd => rfl); (case hg => rfl); (case hr => first | (go_simp; done) | (go_simp; rfl)); (case hp => exact (Reps.one (show Kd.M Kd.string _ _ _ (⟨#[99, 104, 97, 114, 115, 101, 116]⟩ : ByteArray) [.string (⟨#[99, 104, 97, 114, 115, 101, 116]⟩ : ByteArray)] from rfl) (Reps.one (show Kd.M Kd.string _ _ _ (⟨#[98, 111, 117, 110, 100, 97, 114, 121]⟩ : ByteArray) [.string (⟨#[98, 111, 117, 110, 100, 97, 114, 121]⟩ : ByteArray)] from rfl) (Reps.one (show Kd.M Kd.string _ _ _ (⟨#[110, 97, 109, 101]⟩ : ByteArray) [.string (⟨#[110, 97, 109, 101]⟩ : ByteArray)] from rfl) (Reps.one (show Kd.M Kd.string _ _ _ (⟨#[120]⟩ : ByteArray) [.string (⟨#[120]⟩ : ByteArray)] from rfl) (Reps.none _ _)))))); intro v166 w54 ho55 hb hg_ hnew_; clear hg_ hnew_; (first | rw [← Ny165.out] at ho55 | (simp only [Int.reduceToNat] at ho55; rw [← Ny165.out] at ho55)); have n0_ := Aside0.mk (Kd.R_below (ur HO_160002.out) hb); have n1_ := Aside0.mk (Kd.R_lower ho55 (keep_size (w := w) (g := g) (row := none) (by repeat (first | (with_reducible first | exact HK.out | apply KeepBut.set_ | apply keep_drewN | apply keep_drew | apply keep_alloc | refine keep_far ?_ GW145.out _ | refine keep_far ?_ GW159.out _) | exact HK.out)))); have n2_ := Aside0.mk (blk_below (g := gb145) (o := .cells #[.string (⟨#[]⟩ : ByteArray), .string (⟨#[]⟩ : ByteArray), .slice none 0 0] 25 (0, 0)) (ub BK145.out) hb); have n3_ := Aside0.mk (blk_below (g := gb159) (o := .cells #[.string t149, .string t154, u160002] 25 (0, 0)) (ub BK159.out) hb); have n4_ := Aside0.mk (IsS62.below (by repeat (first | (with_reducible first | exact HI0.out | apply IsS62.alloc | apply IsS62.drewN | apply IsS62.drew | apply IsS62.set_1 | refine IsS62.far ?_ NB0_145.out _ | refine IsS62.far ?_ NB0_159.out _) | exact HI0.out)) hb); have n5_ := Aside0.mk (KeepBut.trans (by repeat (first | (with_reducible first | exact HK.out | apply KeepBut.set_ | apply keep_drewN | apply keep_drew | apply keep_alloc | refine keep_far ?_ GW145.out _ | refine keep_far ?_ GW159.out _) | exact HK.out)) (KeepBut.of_below hb g none) (.inl rfl)); have n6_ := Aside0.mk (below_step (by repeat (first | (with_reducible first | exact HB.out | apply below_alloc | apply pw_below_drewN | apply below_drew1 | refine below_set ?_ (IsS62.ge HI0.out) | refine below_set ?_ GE145.out | refine below_set ?_ GE159.out) | exact HB.out)) hb); clear HO_160002; clear BK145; clear BK159; clear HI0; clear HK; clear HB; have HO_160002 := n0_; have HO167 := n1_; have BK145 := n2_; have BK159 := n3_; have HI0 := n4_; have HK := n5_; have HB := n6_; clear n0_ n1_ n2_ n3_ n4_ n5_ n6_; clear hb ho55; obtain ⟨Ao56, co56, eo56⟩ := Kd.R_slice HO167.out; subst eo56) | ((with_reducible refine gate_callee (f := 42) rfl ?_); refine goesL_ (some 23) rfl rfl Tryd.func42 (by kernel_rfl) rfl #[.pointer (some ⟨g, 0, none⟩), .slice Ao56 y165.length co56] rfl ma ?_; (with_reducible refine (spec_l13Rd_of.calls k1 g s0_0 x1001_1 _ _ y165 t168 t169 w0 _ ?side1 ?side2 ?side3 ?side4 ?side5 A26.out).mono ?_); (case side1 => repeat (first | (with_reducible first | exact HI0.out | apply IsS62.alloc | apply IsS62.drewN | apply IsS62.drew | apply IsS62.set_1 | refine IsS62.far ?_ NB0_145.out _ | refine IsS62.far ?_ NB0_159.out _) | exact HI0.out)); (case side2 => repeat (first | (with_reducible first | exact HB.out | apply below_alloc | apply pw_below_drewN | apply below_drew1 | refine below_set ?_ (IsS62.ge HI0.out) | refine below_set ?_ GE145.out | refine below_set ?_ GE159.out) | exact HB.out)); (case side3 => repeat (first | exact (Kd.R_reads' HO167.out).2.2 | (with_reducible refine Kd.C_alloc ?_ _) | (with_reducible refine Kd.C_drewN ?_ _) | (with_reducible refine Kd.C_drew ?_))); (case side4 => exact (Kd.R_reads' HO167.out).2.1); (case side5 => exact far_slice (IsS62.own_ne HI0.out HO167.out (by decide))); rintro e w57 ⟨rfl, hi, hb, hk⟩; refine ⟨_, rfl, ?_⟩; have n0_ := Aside0.mk (Kd.R_mono (Kd.R_keep (IsS62.apart (show IsS62 w0 _ g s0_0 x1001_1 from by repeat (first | (with_reducible first | exact HI0.out | apply IsS62.alloc | apply IsS62.drewN | apply IsS62.drew | apply IsS62.set_1 | refine IsS62.far ?_ NB0_145.out _ | refine IsS62.far ?_ NB0_159.out _) | exact HI0.out)) (ur HO_160002.out) (by decide)) hk (fun _ h => h.2)) (fun _ h => h.1)); have n1_ := Aside0.mk (KeepBut.blk hk (g' := gb145) (o := .cells #[.string (⟨#[]⟩ : ByteArray), .string (⟨#[]⟩ : ByteArray), .slice none 0 0] 25 (0, 0)) (ub BK145.out) NB145_0.out (by simp)); have n2_ := Aside0.mk (KeepBut.blk hk (g' := gb159) (o := .cells #[.string t149, .string t154, u160002] 25 (0, 0)) (ub BK159.out) NB159_0.out (by simp)); have n3_ := Aside0.mk (Kd.R_mono (Kd.R_keep (IsS62.apart (show IsS62 w0 _ g s0_0 x1001_1 from by repeat (first | (with_reducible first | exact HI0.out | apply IsS62.alloc | apply IsS62.drewN | apply IsS62.drew | apply IsS62.set_1 | refine IsS62.far ?_ NB0_145.out _ | refine IsS62.far ?_ NB0_159.out _) | exact HI0.out)) (ur HO167.out) (by decide)) hk (fun _ h => h.2)) (fun _ h => h.1)); have n4_ := Aside0.mk (KeepBut.trans (by repeat (first | (with_reducible first | exact HK.out | apply KeepBut.set_ | apply keep_drewN | apply keep_drew | apply keep_alloc | refine keep_far ?_ GW145.out _ | refine keep_far ?_ GW159.out _) | exact HK.out)) hk (.inl rfl)); have n5_ := Aside0.mk (hb); have n6_ := Aside0.mk (hi); clear HO_160002; clear BK145; clear BK159; clear HO167; clear HK; clear HB; clear HI0; have HO_160002 := n0_; have BK145 := n1_; have BK159 := n2_; have HO167 := n3_; have HK := n4_; have HB := n5_; have HI0 := n6_; clear n0_ n1_ n2_ n3_ n4_ n5_ n6_; (try clear hb); (try clear hb2); (try clear hk); (try clear hi)) | ((with_reducible refine gate_dst (N := 25) rfl ?_); refine Kd.R_lit Kd.string _ 9 ?hg (N := 25) ?hd (xs := ([(⟨#[117, 116, 102, 45, 56]⟩ : ByteArray), (⟨#[98, 48]⟩ : ByteArray), (⟨#[97, 32, 98]⟩ : ByteArray), (⟨#[113, 34, 122]⟩ : ByteArray), (⟨#[]⟩ : ByteArray), (⟨#[98, 59, 99]⟩ : ByteArray), (⟨#[120, 121, 122]⟩ : ByteArray)] : List ByteArray)) (inner := [.string (⟨#[117, 116, 102, 45, 56]⟩ : ByteArray), .string (⟨#[98, 48]⟩ : ByteArray), .string (⟨#[97, 32, 98]⟩ : ByteArray), .string (⟨#[113, 34, 122]⟩ : ByteArray), .string (⟨#[]⟩ : ByteArray), .string (⟨#[98, 59, 99]⟩ : ByteArray), .string (⟨#[120, 121, 122]⟩ : ByteArray)]) (ok := fun _ => True) (okp := fun _ => True) ?hr ?hp (fun _ hk => hk) trivial (Below.refl _ _) (Nat.le_refl _) (by simp) ?_; (case hd => rfl); (case hg => rfl); (case hr => first | (go_simp; done) | (go_simp; rfl)); (case hp => exact (Reps.one (show Kd.M Kd.string _ _ _ (⟨#[117, 116, 102, 45, 56]⟩ : ByteArray) [.string (⟨#[117, 116, 102, 45, 56]⟩ : ByteArray)] from rfl) (Reps.one (show Kd.M Kd.string _ _ _ (⟨#[98, 48]⟩ : ByteArray) [.string (⟨#[98, 48]⟩ : ByteArray)] from rfl) (Reps.one (show Kd.M Kd.string _ _ _ (⟨#[97, 32, 98]⟩ : ByteArray) [.string (⟨#[97, 32, 98]⟩ : ByteArray)] from rfl) (Reps.one (show Kd.M Kd.string _ _ _ (⟨#[113, 34, 122]⟩ : ByteArray) [.string (⟨#[113, 34, 122]⟩ : ByteArray)] from rfl) (Reps.one (show Kd.M Kd.string _ _ _ (⟨#[]⟩ : ByteArray) [.string (⟨#[]⟩ : ByteArray)] from rfl) (Reps.one (show Kd.M Kd.string _ _ _ (⟨#[98, 59, 99]⟩ : ByteArray) [.string (⟨#[98, 59, 99]⟩ : ByteArray)] from rfl) (Reps.one (show Kd.M Kd.string _ _ _ (⟨#[120, 121, 122]⟩ : ByteArray) [.string (⟨#[120, 121, 122]⟩ : ByteArray)] from rfl) (Reps.none _ _))))))))); intro v171 w58 ho59 hb hg_ hnew_; clear hg_ hnew_; (first | rw [← Ny170.out] at ho59 | (simp only [Int.reduceToNat] at ho59; rw [← Ny170.out] at ho59)); have n0_ := Aside0.mk (Kd.R_below (ur HO_160002.out) hb); have n1_ := Aside0.mk (Kd.R_elder' (ur HO167.out) (Kd.R_base ho59) hb); have n2_ := Aside0.mk (Kd.R_lower (Kd.R_new' ho59 (Kd.R_lt (ur HO167.out))) (keep_size (w := w) (g := g) (row := none) (by repeat (first | (with_reducible first | exact HK.out | apply KeepBut.set_ | apply keep_drewN | apply keep_drew | apply keep_alloc | refine keep_far ?_ GW145.out _ | refine keep_far ?_ GW159.out _) | exact HK.out)))); have n3_ := Aside0.mk (blk_below (g := gb145) (o := .cells #[.string (⟨#[]⟩ : ByteArray), .string (⟨#[]⟩ : ByteArray), .slice none 0 0] 25 (0, 0)) (ub BK145.out) hb); have n4_ := Aside0.mk (blk_below (g := gb159) (o := .cells #[.string t149, .string t154, u160002] 25 (0, 0)) (ub BK159.out) hb); have n5_ := Aside0.mk (IsS62.below (by repeat (first | (with_reducible first | exact HI0.out | apply IsS62.alloc | apply IsS62.drewN | apply IsS62.drew | apply IsS62.set_1 | refine IsS62.far ?_ NB0_145.out _ | refine IsS62.far ?_ NB0_159.out _) | exact HI0.out)) hb); have n6_ := Aside0.mk (KeepBut.trans (by repeat (first | (with_reducible first | exact HK.out | apply KeepBut.set_ | apply keep_drewN | apply keep_drew | apply keep_alloc | refine keep_far ?_ GW145.out _ | refine keep_far ?_ GW159.out _) | exact HK.out)) (KeepBut.of_below hb g none) (.inl rfl)); have n7_ := Aside0.mk (below_step (by repeat (first | (with_reducible first | exact HB.out | apply below_alloc | apply pw_below_drewN | apply below_drew1 | refine below_set ?_ (IsS62.ge HI0.out) | refine below_set ?_ GE145.out | refine below_set ?_ GE159.out) | exact HB.out)) hb); clear HO_160002; clear HO167; clear BK145; clear BK159; clear HI0; clear HK; clear HB; have HO_160002 := n0_; have HO167 := n1_; have HO172 := n2_; have BK145 := n3_; have BK159 := n4_; have HI0 := n5_; have HK := n6_; have HB := n7_; clear n0_ n1_ n2_ n3_ n4_ n5_ n6_ n7_; clear hb ho59; obtain ⟨Ao60, co60, eo60⟩ := Kd.R_slice HO172.out; subst eo60) | ((with_reducible refine gate_callee (f := 42) rfl ?_); refine goesL_ (some 26) rfl rfl Tryd.func42 (by kernel_rfl) rfl #[.pointer (some ⟨g, 0, none⟩), .slice Ao60 y170.length co60] rfl ma ?_; (with_reducible refine (spec_l13Rd_of.calls k1 g s0_0 t169 _ _ y170 t173 t174 w0 _ ?side1 ?side2 ?side3 ?side4 ?side5 A27.out).mono ?_); (case side1 => repeat (first | (with_reducible first | exact HI0.out | apply IsS62.alloc | apply IsS62.drewN | apply IsS62.drew | apply IsS62.set_1 | refine IsS62.far ?_ NB0_145.out _ | refine IsS62.far ?_ NB0_159.out _) | exact HI0.out)); (case side2 => repeat (first | (with_reducible first | exact HB.out | apply below_alloc | apply pw_below_drewN | apply below_drew1 | refine below_set ?_ (IsS62.ge HI0.out) | refine below_set ?_ GE145.out | refine below_set ?_ GE159.out) | exact HB.out)); (case side3 => repeat (first | exact (Kd.R_reads' HO172.out).2.2 | (with_reducible refine Kd.C_alloc ?_ _) | (with_reducible refine Kd.C_drewN ?_ _) | (with_reducible refine Kd.C_drew ?_))); (case side4 => exact (Kd.R_reads' HO172.out).2.1); (case side5 => exact far_slice (IsS62.own_ne HI0.out HO172.out (by decide))); rintro e w61 ⟨rfl, hi, hb, hk⟩; refine ⟨_, rfl, ?_⟩; have n0_ := Aside0.mk (Kd.R_mono (Kd.R_keep (IsS62.apart (show IsS62 w0 _ g s0_0 t169 from by repeat (first | (with_reducible first | exact HI0.out | apply IsS62.alloc | apply IsS62.drewN | apply IsS62.drew | apply IsS62.set_1 | refine IsS62.far ?_ NB0_145.out _ | refine IsS62.far ?_ NB0_159.out _) | exact HI0.out)) (ur HO_160002.out) (by decide)) hk (fun _ h => h.2)) (fun _ h => h.1)); have n1_ := Aside0.mk (KeepBut.blk hk (g' := gb145) (o := .cells #[.string (⟨#[]⟩ : ByteArray), .string (⟨#[]⟩ : ByteArray), .slice none 0 0] 25 (0, 0)) (ub BK145.out) NB145_0.out (by simp)); have n2_ := Aside0.mk (KeepBut.blk hk (g' := gb159) (o := .cells #[.string t149, .string t154, u160002] 25 (0, 0)) (ub BK159.out) NB159_0.out (by simp)); have n3_ := Aside0.mk (Kd.R_mono (Kd.R_keep (IsS62.apart (show IsS62 w0 _ g s0_0 t169 from by repeat (first | (with_reducible first | exact HI0.out | apply IsS62.alloc | apply IsS62.drewN | apply IsS62.drew | apply IsS62.set_1 | refine IsS62.far ?_ NB0_145.out _ | refine IsS62.far ?_ NB0_159.out _) | exact HI0.out)) (ur HO167.out) (by decide)) hk (fun _ h => h.2)) (fun _ h => h.1)); have n4_ := Aside0.mk (Kd.R_mono (Kd.R_keep (IsS62.apart (show IsS62 w0 _ g s0_0 t169 from by repeat (first | (with_reducible first | exact HI0.out | apply IsS62.alloc | apply IsS62.drewN | apply IsS62.drew | apply IsS62.set_1 | refine IsS62.far ?_ NB0_145.out _ | refine IsS62.far ?_ NB0_159.out _) | exact HI0.out)) (ur HO172.out) (by decide)) hk (fun _ h => h.2)) (fun _ h => h.1)); have n5_ := Aside0.mk (KeepBut.trans (by repeat (first | (with_reducible first | exact HK.out | apply KeepBut.set_ | apply keep_drewN | apply keep_drew | apply keep_alloc | refine keep_far ?_ GW145.out _ | refine keep_far ?_ GW159.out _) | exact HK.out)) hk (.inl rfl)); have n6_ := Aside0.mk (hb); have n7_ := Aside0.mk (hi); clear HO_160002; clear BK145; clear BK159; clear HO167; clear HO172; clear HK; clear HB; clear HI0; have HO_160002 := n0_; have BK145 := n1_; have BK159 := n2_; have HO167 := n3_; have HO172 := n4_; have HK := n5_; have HB := n6_; have HI0 := n7_; clear n0_ n1_ n2_ n3_ n4_ n5_ n6_ n7_; (try clear hb); (try clear hb2); (try clear hk); (try clear hi)) | ((with_reducible refine gate_dst (N := 5) rfl ?_); refine box_event ?hg (N := 5) ?hd (cs := #[.string (⟨#[]⟩ : ByteArray), .string (⟨#[]⟩ : ByteArray)]) (t := 29) ?hr ?_; (case hd => rfl); (case hg => rfl); (case hr => first | (go_simp; done) | (go_simp; rfl)); intro gb175 hg w62 hbox hb; have n0_ := Aside0.mk (Kd.R_below (Kd.R_elderB (ur HO_160002.out) gb175 (Nat.le_of_eq hg.symm)) hb); have n1_ := Aside0.mk (Kd.R_below (ur HO167.out) hb); have n2_ := Aside0.mk (Kd.R_below (ur HO172.out) hb); have n3_ := Aside0.mk (blk_below (g := gb145) (o := .cells #[.string (⟨#[]⟩ : ByteArray), .string (⟨#[]⟩ : ByteArray), .slice none 0 0] 25 (0, 0)) (ub BK145.out) hb); have n4_ := Aside0.mk (blk_below (g := gb159) (o := .cells #[.string t149, .string t154, u160002] 25 (0, 0)) (ub BK159.out) hb); have n5_ := Aside0.mk (IsS62.below (by repeat (first | (with_reducible first | exact HI0.out | apply IsS62.alloc | apply IsS62.drewN | apply IsS62.drew | apply IsS62.set_1 | refine IsS62.far ?_ NB0_145.out _ | refine IsS62.far ?_ NB0_159.out _) | exact HI0.out)) hb); have n6_ := Aside0.mk (KeepBut.trans (by repeat (first | (with_reducible first | exact HK.out | apply KeepBut.set_ | apply keep_drewN | apply keep_drew | apply keep_alloc | refine keep_far ?_ GW145.out _ | refine keep_far ?_ GW159.out _) | exact HK.out)) (KeepBut.of_below hb g none) (.inl rfl)); have n7_ := Aside0.mk (below_step (by repeat (first | (with_reducible first | exact HB.out | apply below_alloc | apply pw_below_drewN | apply below_drew1 | refine below_set ?_ (IsS62.ge HI0.out) | refine below_set ?_ GE145.out | refine below_set ?_ GE159.out) | exact HB.out)) hb); have n8_ := Aside0.mk (hbox); have n9_ := Aside0.mk ((by rw [hg]; exact (keep_size (w := w) (g := g) (row := none) (by repeat (first | (with_reducible first | exact HK.out | apply KeepBut.set_ | apply keep_drewN | apply keep_drew | apply keep_alloc | refine keep_far ?_ GW145.out _ | refine keep_far ?_ GW159.out _) | exact HK.out))) : w.heap.size ≤ gb175)); have n10_ := Aside0.mk ((Nat.le_trans HW0.out (by rw [hg]; exact (keep_size (w := w) (g := g) (row := none) (by repeat (first | (with_reducible first | exact HK.out | apply KeepBut.set_ | apply keep_drewN | apply keep_drew | apply keep_alloc | refine keep_far ?_ GW145.out _ | refine keep_far ?_ GW159.out _) | exact HK.out))) : w.heap.size ≤ gb175) : w0.heap.size ≤ gb175)); have n11_ := Aside0.mk ((by rw [hg]; exact Nat.ne_of_lt (blk_lt (g := gb145) (o := .cells #[.string (⟨#[]⟩ : ByteArray), .string (⟨#[]⟩ : ByteArray), .slice none 0 0] 25 (0, 0)) (ub BK145.out)) : gb145 ≠ gb175)); have n12_ := Aside0.mk ((by rw [hg]; exact Nat.ne_of_gt (blk_lt (g := gb145) (o := .cells #[.string (⟨#[]⟩ : ByteArray), .string (⟨#[]⟩ : ByteArray), .slice none 0 0] 25 (0, 0)) (ub BK145.out)) : gb175 ≠ gb145)); have n13_ := Aside0.mk ((by rw [hg]; exact Nat.ne_of_lt (blk_lt (g := gb159) (o := .cells #[.string t149, .string t154, u160002] 25 (0, 0)) (ub BK159.out)) : gb159 ≠ gb175)); have n14_ := Aside0.mk ((by rw [hg]; exact Nat.ne_of_gt (blk_lt (g := gb159) (o := .cells #[.string t149, .string t154, u160002] 25 (0, 0)) (ub BK159.out)) : gb175 ≠ gb159)); have n15_ := Aside0.mk ((by rw [hg]; exact Nat.ne_of_lt (IsS62.lt (show IsS62 w0 _ g s0_0 t174 from by repeat (first | (with_reducible first | exact HI0.out | apply IsS62.alloc | apply IsS62.drewN | apply IsS62.drew | apply IsS62.set_1 | refine IsS62.far ?_ NB0_145.out _ | refine IsS62.far ?_ NB0_159.out _) | exact HI0.out))) : g ≠ gb175)); have n16_ := Aside0.mk ((by rw [hg]; exact Nat.ne_of_gt (IsS62.lt (show IsS62 w0 _ g s0_0 t174 from by repeat (first | (with_reducible first | exact HI0.out | apply IsS62.alloc | apply IsS62.drewN | apply IsS62.drew | apply IsS62.set_1 | refine IsS62.far ?_ NB0_145.out _ | refine IsS62.far ?_ NB0_159.out _) | exact HI0.out))) : gb175 ≠ g)); clear HO_160002; clear HO167; clear HO172; clear BK145; clear BK159; clear HI0; clear HK; clear HB; have HO_160002 := n0_; have HO167 := n1_; have HO172 := n2_; have BK145 := n3_; have BK159 := n4_; have HI0 := n5_; have HK := n6_; have HB := n7_; have BK175 := n8_; have GW175 := n9_; have GE175 := n10_; have NB145_175 := n11_; have NB175_145 := n12_; have NB159_175 := n13_; have NB175_159 := n14_; have NB0_175 := n15_; have NB175_0 := n16_; clear n0_ n1_ n2_ n3_ n4_ n5_ n6_ n7_ n8_ n9_ n10_ n11_ n12_ n13_ n14_ n15_ n16_; clear hb hbox hg; have hnb63 := NB175_145.out; have hnc63 := NB145_175.out; have hnb64 := NB175_159.out; have hnc64 := NB159_175.out; have hnb65 := NB175_0.out; have hnc65 := NB0_175.out; have hcz66_0 : w62.cell? ⟨gb175, 0, none⟩ = some (.string (⟨#[]⟩ : ByteArray)) := (blk_cell BK175.out 0).trans rfl; have hcz66_1 : w62.cell? ⟨gb175, 1, none⟩ = some (.string (⟨#[]⟩ : ByteArray)) := (blk_cell BK175.out 1).trans rfl; have hfz66_0 := blk_frozen BK175.out 0; have hfz66_1 := blk_frozen BK175.out 1; have hnb67 := NB159_145.out; have hnc67 := NB145_159.out; have hnb68 := NB159_0.out; have hnc68 := NB0_159.out; have hcz69_0 : w62.cell? ⟨gb159, 0, none⟩ = some (.string t149) := (blk_cell BK159.out 0).trans rfl; have hcz69_1 : w62.cell? ⟨gb159, 1, none⟩ = some (.string t154) := (blk_cell BK159.out 1).trans rfl; have hcz69_2 : w62.cell? ⟨gb159, 2, none⟩ = some (u160002) := (blk_cell BK159.out 2).trans rfl; have hfz69_0 := blk_frozen BK159.out 0; have hfz69_1 := blk_frozen BK159.out 1; have hfz69_2 := blk_frozen BK159.out 2; obtain ⟨Ao70, co70, eo70⟩ := Kd.R_slice HO_160002.out; subst eo70) | ((with_reducible refine gate_callee (f := 33) rfl ?_); refine goesL_ (some 32) rfl rfl Tryd.func33 (by kernel_rfl) rfl #[.slice Ao70 x160002_1.length co70, .string t168] rfl ma ?_; (with_reducible refine (spec_l3Find.calls k1 _ _ x160002_1 t168 t176 _ ?side1 ?side2 A28.out).mono ?_); (case side1 => refine (Kd.R_reads' (e := 29) (base := w.heap.size) (ok := fun k_ => (True ∧ k_ ≠ gb175)) (n := x160002_1.length) (c := co70) ?_).2.2; exact (ur (Kd.R_mono (Kd.R_far (p := ⟨gb175, 1, none⟩) (Kd.R_far (p := ⟨gb175, 0, none⟩) (Kd.R_mono HO_160002.out (fun k_ hk => (⟨hk, hk.2⟩ : _ ∧ k_ ≠ gb175))) (fun _ hk => hk.2) (.string t168)) (fun _ hk => hk.2) (.string t173)) (fun _ h_ => h_.1)))); (case side2 => exact (Kd.R_reads' HO_160002.out).2.1); rintro e w71 ⟨rfl, hb⟩; refine ⟨_, rfl, ?_⟩; have n0_ := Aside0.mk (Kd.R_below (ur (Kd.R_mono (Kd.R_far (p := ⟨gb175, 1, none⟩) (Kd.R_far (p := ⟨gb175, 0, none⟩) (Kd.R_mono HO_160002.out (fun k_ hk => (⟨hk, hk.2⟩ : _ ∧ k_ ≠ gb175))) (fun _ hk => hk.2) (.string t168)) (fun _ hk => hk.2) (.string t173)) (fun _ h_ => h_.1))) hb); have n1_ := Aside0.mk (Kd.R_below (ur (Kd.R_mono (Kd.R_far (p := ⟨gb175, 1, none⟩) (Kd.R_far (p := ⟨gb175, 0, none⟩) (Kd.R_types HO167.out BK175.out (by decide)) (fun _ hk => hk.2) (.string t168)) (fun _ hk => hk.2) (.string t173)) (fun _ h_ => h_.1))) hb); have n2_ := Aside0.mk (Kd.R_below (ur (Kd.R_mono (Kd.R_far (p := ⟨gb175, 1, none⟩) (Kd.R_far (p := ⟨gb175, 0, none⟩) (Kd.R_types HO172.out BK175.out (by decide)) (fun _ hk => hk.2) (.string t168)) (fun _ hk => hk.2) (.string t173)) (fun _ h_ => h_.1))) hb); have n3_ := Aside0.mk (blk_below (g := gb145) (o := .cells #[.string (⟨#[]⟩ : ByteArray), .string (⟨#[]⟩ : ByteArray), .slice none 0 0] 25 (0, 0)) (by (with_reducible repeat (first | refine blk_drewN ?_ _ | refine blk_drew ?_ | refine blk_alloc ?_ _)); refine blk_far ?_ NB145_175.out _; (with_reducible repeat (first | refine blk_drewN ?_ _ | refine blk_drew ?_ | refine blk_alloc ?_ _)); refine blk_far ?_ NB145_175.out _; (with_reducible repeat (first | refine blk_drewN ?_ _ | refine blk_drew ?_ | refine blk_alloc ?_ _)); exact BK145.out) hb); have n4_ := Aside0.mk (blk_below (g := gb159) (o := .cells #[.string t149, .string t154, .slice Ao70 x160002_1.length co70] 25 (0, 0)) (by (with_reducible repeat (first | refine blk_drewN ?_ _ | refine blk_drew ?_ | refine blk_alloc ?_ _)); refine blk_far ?_ NB159_175.out _; (with_reducible repeat (first | refine blk_drewN ?_ _ | refine blk_drew ?_ | refine blk_alloc ?_ _)); refine blk_far ?_ NB159_175.out _; (with_reducible repeat (first | refine blk_drewN ?_ _ | refine blk_drew ?_ | refine blk_alloc ?_ _)); exact BK159.out) hb); have n5_ := Aside0.mk (IsS62.below (show IsS62 w0 ((w62.setCell ⟨gb175, 0, none⟩ (.string t168)).setCell ⟨gb175, 1, none⟩ (.string t173)) g s0_0 t174 from by repeat (first | (with_reducible first | exact HI0.out | apply IsS62.alloc | apply IsS62.drewN | apply IsS62.drew | apply IsS62.set_1 | refine IsS62.far ?_ NB0_145.out _ | refine IsS62.far ?_ NB0_159.out _ | refine IsS62.far ?_ NB0_175.out _) | exact HI0.out)) hb); have n6_ := Aside0.mk (blk_below (g := gb175) (o := .cells #[.string t168, .string t173] 29 (0, 0)) (by (with_reducible repeat (first | refine blk_drewN ?_ _ | refine blk_drew ?_ | refine blk_alloc ?_ _)); refine blk_put (cs := #[.string t168, .string (⟨#[]⟩ : ByteArray)]) ?_ 1 _ rfl; (with_reducible repeat (first | refine blk_drewN ?_ _ | refine blk_drew ?_ | refine blk_alloc ?_ _)); refine blk_put (cs := #[.string (⟨#[]⟩ : ByteArray), .string (⟨#[]⟩ : ByteArray)]) ?_ 0 _ rfl; (with_reducible repeat (first | refine blk_drewN ?_ _ | refine blk_drew ?_ | refine blk_alloc ?_ _)); exact BK175.out) hb); have n7_ := Aside0.mk (KeepBut.trans (by repeat (first | (with_reducible first | exact HK.out | apply KeepBut.set_ | apply keep_drewN | apply keep_drew | apply keep_alloc | refine keep_far ?_ GW145.out _ | refine keep_far ?_ GW159.out _ | refine keep_far ?_ GW175.out _) | exact HK.out)) (KeepBut.of_below hb g none) (.inl rfl)); have n8_ := Aside0.mk (below_step (by repeat (first | (with_reducible first | exact HB.out | apply below_alloc | apply pw_below_drewN | apply below_drew1 | refine below_set ?_ (IsS62.ge HI0.out) | refine below_set ?_ GE145.out | refine below_set ?_ GE159.out | refine below_set ?_ GE175.out) | exact HB.out)) hb); clear HO_160002; clear HO167; clear HO172; clear BK145; clear BK159; clear HI0; clear BK175; clear HK; clear HB; have HO_160002 := n0_; have HO167 := n1_; have HO172 := n2_; have BK145 := n3_; have BK159 := n4_; have HI0 := n5_; have BK175 := n6_; have HK := n7_; have HB := n8_; clear n0_ n1_ n2_ n3_ n4_ n5_ n6_ n7_ n8_; (try clear hb); (try clear hb2); (try clear hk); (try clear hi)))
     go_roundg k1
     case measure => have := HK1.out; omega
     case rel => exact ⟨(wrap64 (x4_1 - 1)), (t174), (x160002_1), (.slice Ao70 x160002_1.length co70), (by first | rfl | (simp; done) | (simp [*]; done)), H', ⟨by have := HK1.out; omega⟩, ⟨by (with_reducible repeat (first | apply Kd.R_alloc | apply Kd.R_drewN | apply Kd.R_drew)); exact Kd.R_mono HO_160002.out (fun _ hk => trivial)⟩, ⟨ub BK145.out⟩, ⟨ub BK159.out⟩, ⟨by repeat (first | (with_reducible first | exact HI0.out | apply IsS62.alloc | apply IsS62.drewN | apply IsS62.drew | apply IsS62.set_1 | refine IsS62.far ?_ NB0_145.out _ | refine IsS62.far ?_ NB0_159.out _ | refine IsS62.far ?_ NB0_175.out _) | exact HI0.out)⟩, ⟨by repeat (first | (with_reducible first | exact HK.out | apply KeepBut.set_ | apply keep_drewN | apply keep_drew | apply keep_alloc | refine keep_far ?_ GW145.out _ | refine keep_far ?_ GW159.out _ | refine keep_far ?_ GW175.out _) | exact HK.out)⟩, ⟨by repeat (first | (with_reducible first | exact HB.out | apply below_alloc | apply pw_below_drewN | apply below_drew1 | refine below_set ?_ (IsS62.ge HI0.out) | refine below_set ?_ GE145.out | refine below_set ?_ GE159.out | refine below_set ?_ GE175.out) | exact HB.out)⟩⟩
   ·
    rw [if_neg c25] at H
    have c25b0 : decide (0 < x4_1) = false := decide_eq_false c25
    clear c25
    simp only [Option.some.injEq, Prod.mk.injEq] at H
    obtain ⟨rfl, rfl, rfl, rfl⟩ := H
    have hnb72 := NB159_145.out
    have hnc72 := NB145_159.out
    have hnb73 := NB159_0.out
    have hnc73 := NB0_159.out
    have hcz74_0 : wr.cell? ⟨gb159, 0, none⟩ = some (.string t149) := (blk_cell BK159.out 0).trans rfl
    have hcz74_1 : wr.cell? ⟨gb159, 1, none⟩ = some (.string t154) := (blk_cell BK159.out 1).trans rfl
    have hcz74_2 : wr.cell? ⟨gb159, 2, none⟩ = some (u160002) := (blk_cell BK159.out 2).trans rfl
    have hfz74_0 := blk_frozen BK159.out 0
    have hfz74_1 := blk_frozen BK159.out 1
    have hfz74_2 := blk_frozen BK159.out 2
    have hnb75 := NB145_0.out
    have hnc75 := NB0_145.out
    have hcz76_0 : wr.cell? ⟨gb145, 0, none⟩ = some (.string (⟨#[]⟩ : ByteArray)) := (blk_cell BK145.out 0).trans rfl
    have hcz76_1 : wr.cell? ⟨gb145, 1, none⟩ = some (.string (⟨#[]⟩ : ByteArray)) := (blk_cell BK145.out 1).trans rfl
    have hcz76_2 : wr.cell? ⟨gb145, 2, none⟩ = some (.slice none 0 0) := (blk_cell BK145.out 2).trans rfl
    have hfz76_0 := blk_frozen BK145.out 0
    have hfz76_1 := blk_frozen BK145.out 1
    have hfz76_2 := blk_frozen BK145.out 2
    obtain ⟨Ao77, co77, eo77⟩ := Kd.R_slice HO_160002.out
    subst eo77
    go_wp2
    refine bodyPost_ret (results_cell_row rfl _ _ gb145 25 #[.string t149, .string t154, .slice Ao77 x160002_1.length co77] (0, 0) _ rfl (by (with_reducible repeat (first | refine blk_drewN ?_ _ | refine blk_drew ?_ | refine blk_alloc ?_ _)); refine blk_put (cs := #[.string t149, .string t154, .slice none 0 0]) ?_ 2 _ rfl; (with_reducible repeat (first | refine blk_drewN ?_ _ | refine blk_drew ?_ | refine blk_alloc ?_ _)); refine blk_put (cs := #[.string t149, .string (⟨#[]⟩ : ByteArray), .slice none 0 0]) ?_ 1 _ rfl; (with_reducible repeat (first | refine blk_drewN ?_ _ | refine blk_drew ?_ | refine blk_alloc ?_ _)); refine blk_put (cs := #[.string (⟨#[]⟩ : ByteArray), .string (⟨#[]⟩ : ByteArray), .slice none 0 0]) ?_ 0 _ rfl; (with_reducible repeat (first | refine blk_drewN ?_ _ | refine blk_drew ?_ | refine blk_alloc ?_ _)); exact BK145.out) Tryd.underlying25 rfl (by kernel_rfl)) rfl ?_
    exact ⟨_, by first | rfl | (simp [errW_none, errW_some] <;> rfl) | (simp [*, errW_none, errW_some] <;> rfl), by (with_reducible repeat (first | apply Kd.R_alloc | apply Kd.R_drewN | apply Kd.R_drew)); exact Kd.R_mono (Kd.R_far (p := ⟨gb145, 2, none⟩) (Kd.R_far (p := ⟨gb145, 1, none⟩) (Kd.R_far (p := ⟨gb145, 0, none⟩) (Kd.R_types HO_160002.out BK145.out (by decide)) (fun _ hk => hk.2) (.string t149)) (fun _ hk => hk.2) (.string t154)) (fun _ hk => hk.2) (.slice Ao77 x160002_1.length co77)) (fun _ hk => trivial), by repeat (first | (with_reducible first | exact HI0.out | apply IsS62.alloc | apply IsS62.drewN | apply IsS62.drew | apply IsS62.set_1 | refine IsS62.far ?_ NB0_145.out _ | refine IsS62.far ?_ NB0_159.out _) | exact HI0.out), by repeat (first | (with_reducible first | exact HB.out | apply below_alloc | apply pw_below_drewN | apply below_drew1 | refine below_set ?_ (IsS62.ge HI0.out) | refine below_set ?_ GE145.out | refine below_set ?_ GE159.out) | exact HB.out), by repeat (first | (with_reducible first | exact HK.out | apply KeepBut.set_ | apply keep_drewN | apply keep_drew | apply keep_alloc | refine keep_far ?_ GW145.out _ | refine keep_far ?_ GW159.out _) | exact HK.out)⟩

/-! ### spec_DrawKindValid: function 8 -/
def spec_DrawKindValid.f (k : Nat) (l0 : List Int) : Option (ByteArray × ByteArray × (List (S29))) := (spec_l13Open.f l0).bind fun bt181 => ((spec_l7Draw.f k bt181.1 bt181.2).bind fun bt184 => ((spec_l7Wrong.f k bt181.1 bt184.2.2.2 bt184.1 bt184.2.1 bt184.2.2.1).bind fun bt190 => ((spec_l7Wrong.f k bt181.1 bt190.2.2.2 bt190.1 bt190.2.1 bt190.2.2.1).bind fun bt196 => (some (bt196.1, bt196.2.1, bt196.2.2.1)))))
set_option maxHeartbeats 8000000 in
set_option maxRecDepth 100000 in
theorem spec_DrawKindValid.calls (k : Nat) (A0 : Option Addr) (c0 : Nat) (l0 : List Int) (r1 : ByteArray) (r2 : ByteArray) (r3 : List (S29)) (w : World) (hr0 : Kd.C (Kd.int .u8) w A0 l0.length l0) (hc0 : l0.length ≤ c0) (h : spec_DrawKindValid.f k l0 = some (r1, r2, r3)) :
  Calls Tryd.prog 8 #[.slice A0 l0.length c0] w fun e w' => ∃ v2_ : Value, e = .returned (.agg #[.string r1, .string r2, v2_]) ∧ Kd.R k29 29 w' w.heap.size (fun _ => True) v2_ r3 ∧ Below w.heap.size w w' := by
 have hu25 := Tryd.underlying25
 have HR0 := Aside0.mk hr0
 have HC0 := Aside0.mk hc0
 clear hr0 hc0
 have HB := Aside0.mk (Below.refl w.heap.size w)
 have H : ((spec_l13Open.f l0).bind fun bt181 => ((spec_l7Draw.f k bt181.1 bt181.2).bind fun bt184 => ((spec_l7Wrong.f k bt181.1 bt184.2.2.2 bt184.1 bt184.2.1 bt184.2.2.1).bind fun bt190 => ((spec_l7Wrong.f k bt181.1 bt190.2.2.2 bt190.1 bt190.2.1 bt190.2.2.1).bind fun bt196 => (some (bt196.1, bt196.2.1, bt196.2.2.1)))))) = some (r1, r2, r3) := h
 clear h
 replace H := Option.bind_eq_some_iff.mp H
 obtain ⟨⟨t181, t182⟩, A20, H⟩ := H
 replace H : ((spec_l7Draw.f k t181 t182).bind fun bt184 => ((spec_l7Wrong.f k t181 bt184.2.2.2 bt184.1 bt184.2.1 bt184.2.2.1).bind fun bt190 => ((spec_l7Wrong.f k t181 bt190.2.2.2 bt190.1 bt190.2.1 bt190.2.2.1).bind fun bt196 => (some (bt196.1, bt196.2.1, bt196.2.2.1))))) = some (r1, r2, r3) := H
 have A2 := Aside0.mk A20
 clear A20
 replace H := Option.bind_eq_some_iff.mp H
 obtain ⟨⟨t184, t185, t186, t189⟩, A30, H⟩ := H
 replace H : ((spec_l7Wrong.f k t181 t189 t184 t185 t186).bind fun bt190 => ((spec_l7Wrong.f k t181 bt190.2.2.2 bt190.1 bt190.2.1 bt190.2.2.1).bind fun bt196 => (some (bt196.1, bt196.2.1, bt196.2.2.1)))) = some (r1, r2, r3) := H
 have A3 := Aside0.mk A30
 clear A30
 replace H := Option.bind_eq_some_iff.mp H
 obtain ⟨⟨t190, t191, t192, t195⟩, A40, H⟩ := H
 replace H : ((spec_l7Wrong.f k t181 t195 t190 t191 t192).bind fun bt196 => (some (bt196.1, bt196.2.1, bt196.2.2.1))) = some (r1, r2, r3) := H
 have A4 := Aside0.mk A40
 clear A40
 replace H := Option.bind_eq_some_iff.mp H
 obtain ⟨⟨t196, t197, t198, t201⟩, A50, H⟩ := H
 replace H : (some (t196, t197, t198)) = some (r1, r2, r3) := H
 have A5 := Aside0.mk A50
 clear A50
 simp only [Option.some.injEq, Prod.mk.injEq] at H
 obtain ⟨rfl, rfl, rfl⟩ := H
 go_enter Tryd.func8, Tryd.ntmps8
 go_wp2_with (first | ((with_reducible refine gate_dst (N := 2) rfl ?_); refine box_event ?hg (N := 2) ?hd (cs := #[.string (⟨#[]⟩ : ByteArray), .string (⟨#[]⟩ : ByteArray), .slice none 0 0]) (t := 25) ?hr ?_; (case hd => rfl); (case hg => rfl); (case hr => first | (go_simp; done) | (go_simp; rfl)); intro gb180 hg w6 hbox hb; have n0_ := Aside0.mk (below_step (ul HB.out) hb); have n1_ := Aside0.mk (hbox); have n2_ := Aside0.mk ((by rw [hg]; exact (below_size (ul HB.out)) : w.heap.size ≤ gb180)); have n3_ := Aside0.mk ((by rw [hg]; exact (below_size (ul HB.out)) : w.heap.size ≤ gb180)); clear HB; have HB := n0_; have BK180 := n1_; have GW180 := n2_; have GE180 := n3_; clear n0_ n1_ n2_ n3_; clear hb hbox hg) | ((with_reducible refine gate_callee (f := 24) rfl ?_); refine goesL_ (some 5) rfl rfl Tryd.func24 (by kernel_rfl) rfl #[.slice A0 l0.length c0] rfl ma ?_; (with_reducible refine (spec_l13Open.calls _ _ l0 t181 t182 w _ ?side1 ?side2 ?side3 A2.out).mono ?_); (case side1 => repeat (first | (with_reducible first | exact HB.out | apply below_alloc | apply pw_below_drewN | apply below_drew1 | refine below_set ?_ GE180.out) | exact HB.out)); (case side2 => exact HR0.out); (case side3 => exact HC0.out); rintro e w7 ⟨g183, rfl, hi, hb, hb2⟩; refine ⟨_, rfl, ?_⟩; have n0_ := Aside0.mk (blk_below (g := gb180) (o := .cells #[.string (⟨#[]⟩ : ByteArray), .string (⟨#[]⟩ : ByteArray), .slice none 0 0] 25 (0, 0)) (ub BK180.out) hb2); have n1_ := Aside0.mk (hb); have n2_ := Aside0.mk (hi); have n3_ := Aside0.mk (IsS62.ne_blk hi (blk_below (g := gb180) (o := .cells #[.string (⟨#[]⟩ : ByteArray), .string (⟨#[]⟩ : ByteArray), .slice none 0 0] 25 (0, 0)) (ub BK180.out) hb2) (by decide)); have n4_ := Aside0.mk (Ne.symm (IsS62.ne_blk hi (blk_below (g := gb180) (o := .cells #[.string (⟨#[]⟩ : ByteArray), .string (⟨#[]⟩ : ByteArray), .slice none 0 0] 25 (0, 0)) (ub BK180.out) hb2) (by decide))); clear BK180; clear HB; have BK180 := n0_; have HB := n1_; have HI183 := n2_; have NB183_180 := n3_; have NB180_183 := n4_; clear n0_ n1_ n2_ n3_ n4_; (try clear hb); (try clear hb2); (try clear hk); (try clear hi)) | ((with_reducible refine gate_callee (f := 26) rfl ?_); refine goesL_ (some 9) rfl rfl Tryd.func26 (by kernel_rfl) rfl #[.pointer (some ⟨g183, 0, none⟩)] rfl ma ?_; (with_reducible refine (spec_l7Draw.calls k g183 t181 t182 t184 t185 t186 t189 w _ ?side1 ?side2 A3.out).mono ?_); (case side1 => repeat (first | (with_reducible first | exact HI183.out | apply IsS62.alloc | apply IsS62.drewN | apply IsS62.drew | apply IsS62.set_1 | refine IsS62.far ?_ NB183_180.out _) | exact HI183.out)); (case side2 => repeat (first | (with_reducible first | exact HB.out | apply below_alloc | apply pw_below_drewN | apply below_drew1 | refine below_set ?_ (IsS62.ge HI183.out) | refine below_set ?_ GE180.out) | exact HB.out)); rintro e w8 ⟨v187, rfl, ho0, hi, hb, hk⟩; refine ⟨_, rfl, ?_⟩; have n0_ := Aside0.mk (KeepBut.blk hk (g' := gb180) (o := .cells #[.string (⟨#[]⟩ : ByteArray), .string (⟨#[]⟩ : ByteArray), .slice none 0 0] 25 (0, 0)) (ub BK180.out) NB180_183.out (by simp)); have n1_ := Aside0.mk (Kd.R_lower ho0 (below_size (by repeat (first | (with_reducible first | exact HB.out | apply below_alloc | apply pw_below_drewN | apply below_drew1 | refine below_set ?_ (IsS62.ge HI183.out) | refine below_set ?_ GE180.out) | exact HB.out)))); have n2_ := Aside0.mk (hb); have n3_ := Aside0.mk (hi); clear BK180; clear HB; clear HI183; have BK180 := n0_; have HO188 := n1_; have HB := n2_; have HI183 := n3_; clear n0_ n1_ n2_ n3_; (try clear hb); (try clear hb2); (try clear hk); (try clear hi); (try clear ho0); obtain ⟨Ao9, co9, eo9⟩ := Kd.R_slice HO188.out; subst eo9) | ((with_reducible refine gate_callee (f := 25) rfl ?_); refine goesL_ (some 10) rfl rfl Tryd.func25 (by kernel_rfl) rfl #[.pointer (some ⟨g183, 0, none⟩), .agg #[.string t184, .string t185, .slice Ao9 t186.length co9]] rfl ma ?_; (with_reducible refine (spec_l7Wrong.calls k g183 t181 t189 t184 t185 _ _ t186 t190 t191 t192 t195 w _ ?side1 ?side2 ?side3 ?side4 A4.out).mono ?_); (case side1 => repeat (first | (with_reducible first | exact HI183.out | apply IsS62.alloc | apply IsS62.drewN | apply IsS62.drew | apply IsS62.set_1 | refine IsS62.far ?_ NB183_180.out _) | exact HI183.out)); (case side2 => repeat (first | (with_reducible first | exact HB.out | apply below_alloc | apply pw_below_drewN | apply below_drew1 | refine below_set ?_ (IsS62.ge HI183.out) | refine below_set ?_ GE180.out) | exact HB.out)); (case side3 => exact Kd.C_foot_own (IsS62.apart (show IsS62 w _ g183 t181 t189 from by repeat (first | (with_reducible first | exact HI183.out | apply IsS62.alloc | apply IsS62.drewN | apply IsS62.drew | apply IsS62.set_1 | refine IsS62.far ?_ NB183_180.out _) | exact HI183.out)) (ur HO188.out) (by decide)) (fun _ h_ => h_.2)); (case side4 => exact (Kd.R_reads' HO188.out).2.1); rintro e w10 ⟨v193, rfl, ho0, hi, hb, hk⟩; refine ⟨_, rfl, ?_⟩; have n0_ := Aside0.mk (KeepBut.blk hk (g' := gb180) (o := .cells #[.string (⟨#[]⟩ : ByteArray), .string (⟨#[]⟩ : ByteArray), .slice none 0 0] 25 (0, 0)) (ub BK180.out) NB180_183.out (by simp)); have n1_ := Aside0.mk (Kd.R_mono (Kd.R_told (Kd.R_oldK (IsS62.apart (show IsS62 w _ g183 t181 t189 from by repeat (first | (with_reducible first | exact HI183.out | apply IsS62.alloc | apply IsS62.drewN | apply IsS62.drew | apply IsS62.set_1 | refine IsS62.far ?_ NB183_180.out _) | exact HI183.out)) (ur HO188.out) (by decide)) hk) (Kd.R_base ho0)) (fun _ h_ => h_.1)); have n2_ := Aside0.mk (Kd.R_lower (Kd.R_new' ho0 (Kd.R_lt (ur HO188.out))) (below_size (by repeat (first | (with_reducible first | exact HB.out | apply below_alloc | apply pw_below_drewN | apply below_drew1 | refine below_set ?_ (IsS62.ge HI183.out) | refine below_set ?_ GE180.out) | exact HB.out)))); have n3_ := Aside0.mk (hb); have n4_ := Aside0.mk (hi); clear BK180; clear HO188; clear HB; clear HI183; have BK180 := n0_; have HO188 := n1_; have HO194 := n2_; have HB := n3_; have HI183 := n4_; clear n0_ n1_ n2_ n3_ n4_; (try clear hb); (try clear hb2); (try clear hk); (try clear hi); (try clear ho0); obtain ⟨Ao11, co11, eo11⟩ := Kd.R_slice HO194.out; subst eo11) | ((with_reducible refine gate_callee (f := 25) rfl ?_); refine goesL_ (some 11) rfl rfl Tryd.func25 (by kernel_rfl) rfl #[.pointer (some ⟨g183, 0, none⟩), .agg #[.string t190, .string t191, .slice Ao11 t192.length co11]] rfl ma ?_; (with_reducible refine (spec_l7Wrong.calls k g183 t181 t195 t190 t191 _ _ t192 t196 t197 t198 t201 w _ ?side1 ?side2 ?side3 ?side4 A5.out).mono ?_); (case side1 => repeat (first | (with_reducible first | exact HI183.out | apply IsS62.alloc | apply IsS62.drewN | apply IsS62.drew | apply IsS62.set_1 | refine IsS62.far ?_ NB183_180.out _) | exact HI183.out)); (case side2 => repeat (first | (with_reducible first | exact HB.out | apply below_alloc | apply pw_below_drewN | apply below_drew1 | refine below_set ?_ (IsS62.ge HI183.out) | refine below_set ?_ GE180.out) | exact HB.out)); (case side3 => exact Kd.C_foot_own (IsS62.apart (show IsS62 w _ g183 t181 t195 from by repeat (first | (with_reducible first | exact HI183.out | apply IsS62.alloc | apply IsS62.drewN | apply IsS62.drew | apply IsS62.set_1 | refine IsS62.far ?_ NB183_180.out _) | exact HI183.out)) (ur HO194.out) (by decide)) (fun _ h_ => h_.2)); (case side4 => exact (Kd.R_reads' HO194.out).2.1); rintro e w12 ⟨v199, rfl, ho0, hi, hb, hk⟩; refine ⟨_, rfl, ?_⟩; have n0_ := Aside0.mk (KeepBut.blk hk (g' := gb180) (o := .cells #[.string (⟨#[]⟩ : ByteArray), .string (⟨#[]⟩ : ByteArray), .slice none 0 0] 25 (0, 0)) (ub BK180.out) NB180_183.out (by simp)); have n1_ := Aside0.mk (Kd.R_mono (Kd.R_told (Kd.R_oldK (IsS62.apart (show IsS62 w _ g183 t181 t195 from by repeat (first | (with_reducible first | exact HI183.out | apply IsS62.alloc | apply IsS62.drewN | apply IsS62.drew | apply IsS62.set_1 | refine IsS62.far ?_ NB183_180.out _) | exact HI183.out)) (ur HO188.out) (by decide)) hk) (Kd.R_base ho0)) (fun _ h_ => h_.1)); have n2_ := Aside0.mk (Kd.R_mono (Kd.R_told (Kd.R_oldK (IsS62.apart (show IsS62 w _ g183 t181 t195 from by repeat (first | (with_reducible first | exact HI183.out | apply IsS62.alloc | apply IsS62.drewN | apply IsS62.drew | apply IsS62.set_1 | refine IsS62.far ?_ NB183_180.out _) | exact HI183.out)) (ur HO194.out) (by decide)) hk) (Kd.R_base ho0)) (fun _ h_ => h_.1)); have n3_ := Aside0.mk (Kd.R_lower (Kd.R_new' (Kd.R_new' ho0 (Kd.R_lt (ur HO188.out))) (Kd.R_lt (ur HO194.out))) (below_size (by repeat (first | (with_reducible first | exact HB.out | apply below_alloc | apply pw_below_drewN | apply below_drew1 | refine below_set ?_ (IsS62.ge HI183.out) | refine below_set ?_ GE180.out) | exact HB.out)))); have n4_ := Aside0.mk (hb); have n5_ := Aside0.mk (hi); clear BK180; clear HO188; clear HO194; clear HB; clear HI183; have BK180 := n0_; have HO188 := n1_; have HO194 := n2_; have HO200 := n3_; have HB := n4_; have HI183 := n5_; clear n0_ n1_ n2_ n3_ n4_ n5_; (try clear hb); (try clear hb2); (try clear hk); (try clear hi); (try clear ho0); have hnb13 := NB180_183.out; have hnc13 := NB183_180.out; have hcz14_0 : w12.cell? ⟨gb180, 0, none⟩ = some (.string (⟨#[]⟩ : ByteArray)) := (blk_cell BK180.out 0).trans rfl; have hcz14_1 : w12.cell? ⟨gb180, 1, none⟩ = some (.string (⟨#[]⟩ : ByteArray)) := (blk_cell BK180.out 1).trans rfl; have hcz14_2 : w12.cell? ⟨gb180, 2, none⟩ = some (.slice none 0 0) := (blk_cell BK180.out 2).trans rfl; have hfz14_0 := blk_frozen BK180.out 0; have hfz14_1 := blk_frozen BK180.out 1; have hfz14_2 := blk_frozen BK180.out 2; obtain ⟨Ao15, co15, eo15⟩ := Kd.R_slice HO200.out; subst eo15))
 refine bodyPost_ret (results_cell_row rfl _ _ gb180 25 #[.string t196, .string t197, .slice Ao15 t198.length co15] (0, 0) _ rfl (by (with_reducible repeat (first | refine blk_drewN ?_ _ | refine blk_drew ?_ | refine blk_alloc ?_ _)); refine blk_put (cs := #[.string t196, .string t197, .slice none 0 0]) ?_ 2 _ rfl; (with_reducible repeat (first | refine blk_drewN ?_ _ | refine blk_drew ?_ | refine blk_alloc ?_ _)); refine blk_put (cs := #[.string t196, .string (⟨#[]⟩ : ByteArray), .slice none 0 0]) ?_ 1 _ rfl; (with_reducible repeat (first | refine blk_drewN ?_ _ | refine blk_drew ?_ | refine blk_alloc ?_ _)); refine blk_put (cs := #[.string (⟨#[]⟩ : ByteArray), .string (⟨#[]⟩ : ByteArray), .slice none 0 0]) ?_ 0 _ rfl; (with_reducible repeat (first | refine blk_drewN ?_ _ | refine blk_drew ?_ | refine blk_alloc ?_ _)); exact BK180.out) Tryd.underlying25 rfl (by kernel_rfl)) rfl ?_
 exact ⟨_, by first | rfl | (simp [errW_none, errW_some] <;> rfl) | (simp [*, errW_none, errW_some] <;> rfl), by (with_reducible repeat (first | apply Kd.R_alloc | apply Kd.R_drewN | apply Kd.R_drew)); exact Kd.R_mono (Kd.R_far (p := ⟨gb180, 2, none⟩) (Kd.R_far (p := ⟨gb180, 1, none⟩) (Kd.R_far (p := ⟨gb180, 0, none⟩) (Kd.R_types HO200.out BK180.out (by decide)) (fun _ hk => hk.2) (.string t196)) (fun _ hk => hk.2) (.string t197)) (fun _ hk => hk.2) (.slice Ao15 t198.length co15)) (fun _ hk => trivial), by repeat (first | (with_reducible first | exact HB.out | apply below_alloc | apply pw_below_drewN | apply below_drew1 | refine below_set ?_ (IsS62.ge HI183.out) | refine below_set ?_ GE180.out) | exact HB.out)⟩

/-! ### impl_LowerText: function 38 -/

def impl_LowerText.f (a0 : ByteArray) : Option (ByteArray) := if a0.size ≤ 140737488355328 then some (strOfNums ((bytesOf a0).map lowI)) else none
set_option maxHeartbeats 1000000 in
set_option maxRecDepth 100000 in
theorem impl_LowerText.calls (a0 : ByteArray) (r : ByteArray) (w : World) (h : impl_LowerText.f a0 = some r) :
  Calls Tryd.prog 38 #[.string a0] w fun e w' => e = .returned (.string r) ∧ Below w.heap.size w w' := by
 unfold impl_LowerText.f at h
 split at h
 ·
  rename_i hb
  injection h with h
  subst h
  have kb := fun W => print_bytes (P := Tryd.prog) 9 22 5 Tryd.underlying9 Tryd.underlying22 Tryd.underlying5 a0 W
  go_enter Tryd.func38, Tryd.ntmps38
  go_wp2
  go_loopw [10] (fun i W => ∃ k : Nat, k ≤ a0.size ∧ i = .int .i64 k ∧ LowRow w w.heap.size (lowN (bytesOf a0) k) W) (fun i _ => a0.size - (intOf i).toNat)
  case atStart => exact ⟨0, Nat.zero_le _, rfl, by simpa [lowN] using lowRow_start w 5 a0⟩
  case round =>
   obtain ⟨k, hk, rfl, hR⟩ := hrel
   have HR := Aside0.mk hR
   by_cases hlt : k < a0.size
   ·
    have hc := hR.cell k (by rw [lowN_length, bytesOf_length]; exact hlt)
    have hf := hR.free k (by rw [lowN_length, bytesOf_length]; exact hlt)
    rw [lowN_at _ _ (by rw [bytesOf_length]; exact hlt)] at hc
    clear hR
    have hr := bytesOf_range a0 k
    have hs := Aside0.mk (lowN_skip (bytesOf a0) k (by rw [bytesOf_length]; exact hlt))
    have hu := Aside0.mk (lowN_succ (bytesOf a0) k (by rw [bytesOf_length]; exact hlt))
    generalize (bytesOf a0).getD k 0 = c at hc hr hs hu
    go_wp2
    ·
     go_roundw
     case rel => exact ⟨k + 1, by omega, by go_num, by
      rw [hu.out, lowI, if_pos ⟨by omega, by omega⟩]
      exact HR.out.store (Nat.le_refl _) k (by rw [lowN_length, bytesOf_length]; exact hlt) _⟩
     case measure => simp [intOf]; omega
    ·
     go_roundw
     case rel => exact ⟨k + 1, by omega, by go_num, by rw [hs.out (by omega)]; exact HR.out⟩
     case measure => simp [intOf]; omega
    ·
     go_roundw
     case rel => exact ⟨k + 1, by omega, by go_num, by rw [hs.out (by omega)]; exact HR.out⟩
     case measure => simp [intOf]; omega
   ·
    clear hR
    have kd := run_convert_bytes_arg (P := Tryd.prog) wr 22 5 Tryd.underlying22 Tryd.underlying5 w.heap.size 0 a0.size (grownCap w a0.size 0 5) (lowN (bytesOf a0) k) (by rw [lowN_length, bytesOf_length]) (fun i hi => by
     rw [Nat.zero_add]; exact HR.out.cell i (by rw [lowN_length, bytesOf_length]; exact hi)) 9 Tryd.underlying9
    go_wp2
    go_ret
    have hk2 : k = a0.size := by omega
    exact ⟨by rw [hk2, lowN_all (bytesOf a0) a0.size (bytesOf_length a0)]; rfl, HR.out.below⟩
 ·
  cases h

-- NOT PRINTED: function 77 (impl_allBytes)

/-! ### impl_isLetter: function 79 -/
def impl_isLetter.f (a0 : Int) : Option (Bool) := if a0 ≥ 97 then (if a0 ≤ 122 then (some true) else (if a0 ≥ 65 then (some (decide (a0 ≤ 90))) else (some false))) else (if a0 ≥ 65 then (some (decide (a0 ≤ 90))) else (some false))
set_option maxHeartbeats 8000000 in
set_option maxRecDepth 100000 in
theorem impl_isLetter.calls (a0 : Int) (r : Bool) (w : World) (h : impl_isLetter.f a0 = some r) :
  Calls Tryd.prog 79 #[.int .u8 a0] w fun e w' => e = .returned (.bool r) ∧ Drawn0 w w' := by
 have H : (if a0 ≥ 97 then (if a0 ≤ 122 then (some true) else (if a0 ≥ 65 then (some (decide (a0 ≤ 90))) else (some false))) else (if a0 ≥ 65 then (some (decide (a0 ≤ 90))) else (some false))) = some r := h
 clear h
 by_cases c2 : a0 ≥ 97
 ·
  rw [if_pos c2] at H
  have c2b0 : decide (97 ≤ a0) = true := decide_eq_true c2
  clear c2
  by_cases c3 : a0 ≤ 122
  ·
   rw [if_pos c3] at H
   have c3b0 : decide (a0 ≤ 122) = true := decide_eq_true c3
   clear c3
   obtain rfl := Option.some.inj H
   go_enter Tryd.func79, Tryd.ntmps79
   go_wp2
   go_ret
   exact ⟨by first | rfl | (simp; done) | (simp [*]; done), by repeat (first | exact Drawn0.refl _ | apply Drawn0.step)⟩
  ·
   rw [if_neg c3] at H
   have c3b0 : decide (a0 ≤ 122) = false := decide_eq_false c3
   clear c3
   by_cases c4 : a0 ≥ 65
   ·
    rw [if_pos c4] at H
    have c4b0 : decide (65 ≤ a0) = true := decide_eq_true c4
    clear c4
    obtain rfl := Option.some.inj H
    go_enter Tryd.func79, Tryd.ntmps79
    go_wp2
    go_ret
    exact ⟨by first | rfl | (simp; done) | (simp [*]; done), by repeat (first | exact Drawn0.refl _ | apply Drawn0.step)⟩
   ·
    rw [if_neg c4] at H
    have c4b0 : decide (65 ≤ a0) = false := decide_eq_false c4
    clear c4
    obtain rfl := Option.some.inj H
    go_enter Tryd.func79, Tryd.ntmps79
    go_wp2
    go_ret
    exact ⟨by first | rfl | (simp; done) | (simp [*]; done), by repeat (first | exact Drawn0.refl _ | apply Drawn0.step)⟩
 ·
  rw [if_neg c2] at H
  have c2b0 : decide (97 ≤ a0) = false := decide_eq_false c2
  clear c2
  by_cases c5 : a0 ≥ 65
  ·
   rw [if_pos c5] at H
   have c5b0 : decide (65 ≤ a0) = true := decide_eq_true c5
   clear c5
   obtain rfl := Option.some.inj H
   go_enter Tryd.func79, Tryd.ntmps79
   go_wp2
   go_ret
   exact ⟨by first | rfl | (simp; done) | (simp [*]; done), by repeat (first | exact Drawn0.refl _ | apply Drawn0.step)⟩
  ·
   rw [if_neg c5] at H
   have c5b0 : decide (65 ≤ a0) = false := decide_eq_false c5
   clear c5
   obtain rfl := Option.some.inj H
   go_enter Tryd.func79, Tryd.ntmps79
   go_wp2
   go_ret
   exact ⟨by first | rfl | (simp; done) | (simp [*]; done), by repeat (first | exact Drawn0.refl _ | apply Drawn0.step)⟩

/-! ### impl_isDigit: function 80 -/
def impl_isDigit.f (a0 : Int) : Option (Bool) := if a0 ≥ 48 then (some (decide (a0 ≤ 57))) else (some false)
set_option maxHeartbeats 8000000 in
set_option maxRecDepth 100000 in
theorem impl_isDigit.calls (a0 : Int) (r : Bool) (w : World) (h : impl_isDigit.f a0 = some r) :
  Calls Tryd.prog 80 #[.int .u8 a0] w fun e w' => e = .returned (.bool r) ∧ Drawn0 w w' := by
 have H : (if a0 ≥ 48 then (some (decide (a0 ≤ 57))) else (some false)) = some r := h
 clear h
 by_cases c2 : a0 ≥ 48
 ·
  rw [if_pos c2] at H
  have c2b0 : decide (48 ≤ a0) = true := decide_eq_true c2
  clear c2
  obtain rfl := Option.some.inj H
  go_enter Tryd.func80, Tryd.ntmps80
  go_wp2
  go_ret
  exact ⟨by first | rfl | (simp; done) | (simp [*]; done), by repeat (first | exact Drawn0.refl _ | apply Drawn0.step)⟩
 ·
  rw [if_neg c2] at H
  have c2b0 : decide (48 ≤ a0) = false := decide_eq_false c2
  clear c2
  obtain rfl := Option.some.inj H
  go_enter Tryd.func80, Tryd.ntmps80
  go_wp2
  go_ret
  exact ⟨by first | rfl | (simp; done) | (simp [*]; done), by repeat (first | exact Drawn0.refl _ | apply Drawn0.step)⟩

/-! ### impl_isName_1: function 86 -/
def impl_isName_1.f (a0 : Int) : Option (Bool) := (impl_isLetter.f a0).bind fun t202 => (if t202 = true then (some true) else ((impl_isDigit.f a0).bind fun t203 => (if t203 = true then (some true) else (some (a0 == 45)))))
set_option maxHeartbeats 8000000 in
set_option maxRecDepth 100000 in
theorem impl_isName_1.calls (a0 : Int) (r : Bool) (w : World) (h : impl_isName_1.f a0 = some r) :
  Calls Tryd.prog 86 #[.int .u8 a0] w fun e w' => e = .returned (.bool r) ∧ Drawn0 w w' := by
 have H : ((impl_isLetter.f a0).bind fun t202 => (if t202 = true then (some true) else ((impl_isDigit.f a0).bind fun t203 => (if t203 = true then (some true) else (some (a0 == 45)))))) = some r := h
 clear h
 replace H := Option.bind_eq_some_iff.mp H
 obtain ⟨t202, A20, H⟩ := H
 replace H : (if t202 = true then (some true) else ((impl_isDigit.f a0).bind fun t203 => (if t203 = true then (some true) else (some (a0 == 45))))) = some r := H
 have A2 := Aside0.mk A20
 clear A20
 by_cases c3 : t202 = true
 ·
  subst c3
  have H1 : (some true) = some r := by rw [if_pos rfl] at H; exact H
  clear H
  have H := H1
  clear H1
  obtain rfl := Option.some.inj H
  go_enter Tryd.func86, Tryd.ntmps86
  go_wp2_with (first | ((with_reducible refine gate_callee (f := 79) rfl ?_); refine goesL_ (some 4) rfl rfl Tryd.func79 (by kernel_rfl) rfl #[.int .u8 a0] rfl ma ?_; (with_reducible refine (impl_isLetter.calls a0 true _ A2.out).mono ?_); rintro e w' ⟨rfl, ⟨nd, rfl⟩⟩; refine ⟨_, rfl, ?_⟩))
  go_ret
  exact ⟨by first | rfl | (simp; done) | (simp [*]; done), by repeat (first | exact Drawn0.refl _ | apply Drawn0.step)⟩
 ·
  replace c3 := Bool.eq_false_iff.mpr c3
  subst c3
  have H1 : ((impl_isDigit.f a0).bind fun t203 => (if t203 = true then (some true) else (some (a0 == 45)))) = some r := by rw [if_neg (show ¬ (false = true) by decide)] at H; exact H
  clear H
  have H := H1
  clear H1
  replace H := Option.bind_eq_some_iff.mp H
  obtain ⟨t203, A40, H⟩ := H
  replace H : (if t203 = true then (some true) else (some (a0 == 45))) = some r := H
  have A4 := Aside0.mk A40
  clear A40
  by_cases c5 : t203 = true
  ·
   subst c5
   have H1 : (some true) = some r := by rw [if_pos rfl] at H; exact H
   clear H
   have H := H1
   clear H1
   obtain rfl := Option.some.inj H
   go_enter Tryd.func86, Tryd.ntmps86
   go_wp2_with (first | ((with_reducible refine gate_callee (f := 79) rfl ?_); refine goesL_ (some 4) rfl rfl Tryd.func79 (by kernel_rfl) rfl #[.int .u8 a0] rfl ma ?_; (with_reducible refine (impl_isLetter.calls a0 false _ A2.out).mono ?_); rintro e w' ⟨rfl, ⟨nd, rfl⟩⟩; refine ⟨_, rfl, ?_⟩) | (go_at_call 80; (with_reducible refine (impl_isDigit.calls a0 true _ A4.out).mono ?_); rintro e w' ⟨rfl, ⟨nd, rfl⟩⟩))
   go_ret
   exact ⟨by first | rfl | (simp; done) | (simp [*]; done), by repeat (first | exact Drawn0.refl _ | apply Drawn0.step)⟩
  ·
   replace c5 := Bool.eq_false_iff.mpr c5
   subst c5
   have H1 : (some (a0 == 45)) = some r := by rw [if_neg (show ¬ (false = true) by decide)] at H; exact H
   clear H
   have H := H1
   clear H1
   obtain rfl := Option.some.inj H
   go_enter Tryd.func86, Tryd.ntmps86
   go_wp2_with (first | ((with_reducible refine gate_callee (f := 79) rfl ?_); refine goesL_ (some 4) rfl rfl Tryd.func79 (by kernel_rfl) rfl #[.int .u8 a0] rfl ma ?_; (with_reducible refine (impl_isLetter.calls a0 false _ A2.out).mono ?_); rintro e w' ⟨rfl, ⟨nd, rfl⟩⟩; refine ⟨_, rfl, ?_⟩) | (go_at_call 80; (with_reducible refine (impl_isDigit.calls a0 false _ A4.out).mono ?_); rintro e w' ⟨rfl, ⟨nd, rfl⟩⟩))
   go_ret
   exact ⟨by first | rfl | (simp; done) | (simp [*]; done), by repeat (first | exact Drawn0.refl _ | apply Drawn0.step)⟩

/-! ### impl_allBytes_isName_1: function 128 -/
def impl_allBytes_isName_1.l0 : Nat → ByteArray → Int → Int → Option (Bool)
 | 0, _, _, _ => none
 | k + 1, x0, x7, x8 => if x8 < x7 then (if 0 ≤ x8 then (if x8 < (x0.size : Int) then ((impl_isName_1.f (bt x0 x8)).bind fun t204 => (if t204 = true then (impl_allBytes_isName_1.l0 k x0 x7 (wrap64 (x8 + 1))) else (some false))) else (none)) else (none)) else (some true)
def impl_allBytes_isName_1.f (k : Nat) (a0 : ByteArray)  : Option (Bool) := impl_allBytes_isName_1.l0 k a0 (a0.size : Int) 0
set_option maxHeartbeats 8000000 in
set_option maxRecDepth 100000 in
theorem impl_allBytes_isName_1.calls (k : Nat) (a0 : ByteArray)  (r : Bool) (w : World) (h : impl_allBytes_isName_1.f k a0 = some r) :
  Calls Tryd.prog 77 #[.string a0, .func (.func 86) #[] #[]] w fun e w' => e = .returned (.bool r) ∧ Drawn0 w w' := by
 have H : (impl_allBytes_isName_1.l0 k a0 (a0.size : Int) 0) = some r := h
 clear h
 have H' := Aside0.mk H
 clear H
 go_enter Tryd.func77, Tryd.ntmps77
 go_wp2
 go_loopg [8] k (fun kq v8 w' => ∃ (x8_1 : Int), v8 = .int .i64 x8_1 ∧ Aside0 (impl_allBytes_isName_1.l0 kq a0 (a0.size : Int) x8_1 = some r) ∧ Aside0 (kq ≤ k) ∧ Drawn0 w w')
 case atStart => exact ⟨(0), (by first | rfl | (simp; done) | (simp [*]; done)), H', ⟨Nat.le_refl _⟩, by repeat (first | exact Drawn0.refl _ | apply Drawn0.step)⟩
 case round =>
  clear H'
  try clear c1
  try clear p2
  obtain ⟨x8_1, rfl, HA, HK1, ⟨m1, rfl⟩⟩ := hrel
  cases gk with
  | zero => exact absurd HA.out (by simp [impl_allBytes_isName_1.l0])
  | succ k1 =>
   have H := HA.out
   clear HA
   simp only [impl_allBytes_isName_1.l0] at H
   by_cases c3 : x8_1 < (a0.size : Int)
   ·
    rw [if_pos c3] at H
    have c3b0 : decide (x8_1 < (a0.size : Int)) = true := decide_eq_true c3
    clear c3
    by_cases c4 : 0 ≤ x8_1
    ·
     rw [if_pos c4] at H
     have c4b0 : decide (0 ≤ x8_1) = true := decide_eq_true c4
     clear c4
     by_cases c5 : x8_1 < (a0.size : Int)
     ·
      rw [if_pos c5] at H
      have c5b0 : decide (x8_1 < (a0.size : Int)) = true := decide_eq_true c5
      clear c5
      replace H := Option.bind_eq_some_iff.mp H
      obtain ⟨t204, A70, H⟩ := H
      replace H : (if t204 = true then (impl_allBytes_isName_1.l0 k1 a0 (a0.size : Int) (wrap64 (x8_1 + 1))) else (some false)) = some r := H
      have A7 := Aside0.mk A70
      clear A70
      by_cases c8 : t204 = true
      ·
       subst c8
       have H1 : (impl_allBytes_isName_1.l0 k1 a0 (a0.size : Int) (wrap64 (x8_1 + 1))) = some r := by rw [if_pos rfl] at H; exact H
       clear H
       have H := H1
       clear H1
       have H' := Aside0.mk H
       clear H
       have p6 : 0 ≤ (x8_1 : Int) := of_decide_eq_true (by assumption)
       have q6 : x8_1 < (a0.size : Int) := of_decide_eq_true (by assumption)
       have hx6 := bt_at a0 x8_1
       replace p6 := eq_true p6
       replace q6 := eq_true q6
       go_wp2_with (first | (go_at_call 86; (with_reducible refine (impl_isName_1.calls (bt a0 x8_1) true _ A7.out).mono ?_); rintro e w' ⟨rfl, ⟨nd, rfl⟩⟩))
       go_roundg k1
       case measure => have := HK1.out; omega
       case rel => exact ⟨(wrap64 (x8_1 + 1)), (by first | rfl | (simp; done) | (simp [*]; done)), H', ⟨by have := HK1.out; omega⟩, by repeat (first | exact Drawn0.refl _ | apply Drawn0.step)⟩
      ·
       replace c8 := Bool.eq_false_iff.mpr c8
       subst c8
       have H1 : (some false) = some r := by rw [if_neg (show ¬ (false = true) by decide)] at H; exact H
       clear H
       have H := H1
       clear H1
       obtain rfl := Option.some.inj H
       have p6 : 0 ≤ (x8_1 : Int) := of_decide_eq_true (by assumption)
       have q6 : x8_1 < (a0.size : Int) := of_decide_eq_true (by assumption)
       have hx6 := bt_at a0 x8_1
       replace p6 := eq_true p6
       replace q6 := eq_true q6
       go_wp2_with (first | (go_at_call 86; (with_reducible refine (impl_isName_1.calls (bt a0 x8_1) false _ A7.out).mono ?_); rintro e w' ⟨rfl, ⟨nd, rfl⟩⟩))
       go_ret
       exact ⟨by first | rfl | (simp; done) | (simp [*]; done), by repeat (first | exact Drawn0.refl _ | apply Drawn0.step)⟩
     ·
      rw [if_neg c5] at H
      exact absurd H (by simp)
    ·
     rw [if_neg c4] at H
     exact absurd H (by simp)
   ·
    rw [if_neg c3] at H
    have c3b0 : decide (x8_1 < (a0.size : Int)) = false := decide_eq_false c3
    clear c3
    obtain rfl := Option.some.inj H
    go_wp2
    go_ret
    exact ⟨by first | rfl | (simp; done) | (simp [*]; done), by repeat (first | exact Drawn0.refl _ | apply Drawn0.step)⟩

/-! ### impl_isName: function 57 -/
def impl_isName.f (k : Nat) (a0 : ByteArray) : Option (Bool) := if (a0.size : Int) ≥ 1 then (if (a0.size : Int) ≤ 30 then (if 0 < (a0.size : Int) then ((impl_isLetter.f (bt a0 0)).bind fun t205 => (if t205 = true then ((impl_allBytes_isName_1.f k a0).bind fun t206 => (some t206)) else (some false))) else (none)) else (some false)) else (some false)
set_option maxHeartbeats 8000000 in
set_option maxRecDepth 100000 in
theorem impl_isName.calls (k : Nat) (a0 : ByteArray) (r : Bool) (w : World) (h : impl_isName.f k a0 = some r) :
  Calls Tryd.prog 57 #[.string a0] w fun e w' => e = .returned (.bool r) ∧ Drawn0 w w' := by
 have H : (if (a0.size : Int) ≥ 1 then (if (a0.size : Int) ≤ 30 then (if 0 < (a0.size : Int) then ((impl_isLetter.f (bt a0 0)).bind fun t205 => (if t205 = true then ((impl_allBytes_isName_1.f k a0).bind fun t206 => (some t206)) else (some false))) else (none)) else (some false)) else (some false)) = some r := h
 clear h
 by_cases c2 : (a0.size : Int) ≥ 1
 ·
  rw [if_pos c2] at H
  have c2b0 : decide (1 ≤ (a0.size : Int)) = true := decide_eq_true c2
  have c2b1 : decide (1 ≤ a0.size) = true := decide_eq_true (by omega)
  clear c2
  by_cases c3 : (a0.size : Int) ≤ 30
  ·
   rw [if_pos c3] at H
   have c3b0 : decide ((a0.size : Int) ≤ 30) = true := decide_eq_true c3
   have c3b1 : decide (a0.size ≤ 30) = true := decide_eq_true (by omega)
   clear c3
   by_cases c4 : 0 < (a0.size : Int)
   ·
    rw [if_pos c4] at H
    have c4b0 : decide (0 < (a0.size : Int)) = true := decide_eq_true c4
    have c4b1 : decide (0 < a0.size) = true := decide_eq_true (by omega)
    clear c4
    replace H := Option.bind_eq_some_iff.mp H
    obtain ⟨t205, A60, H⟩ := H
    replace H : (if t205 = true then ((impl_allBytes_isName_1.f k a0).bind fun t206 => (some t206)) else (some false)) = some r := H
    have A6 := Aside0.mk A60
    clear A60
    by_cases c7 : t205 = true
    ·
     subst c7
     have H1 : ((impl_allBytes_isName_1.f k a0).bind fun t206 => (some t206)) = some r := by rw [if_pos rfl] at H; exact H
     clear H
     have H := H1
     clear H1
     replace H := Option.bind_eq_some_iff.mp H
     obtain ⟨t206, A80, H⟩ := H
     replace H : (some t206) = some r := H
     have A8 := Aside0.mk A80
     clear A80
     obtain rfl := Option.some.inj H
     have p5 : 0 ≤ (0 : Int) := (by omega)
     have q5 : 0 < a0.size := (by have : (0 : Int) < (a0.size : Int) := of_decide_eq_true (by assumption); omega)
     have hx5 : ∀ h : 0 < a0.size, ((a0[0]'h).toNat : Int) = bt a0 0 := bt_at a0 0
     clear p5
     have qi5 : (0 < (a0.size : Int)) = True := eq_true (of_decide_eq_true (by assumption))
     replace q5 := eq_true q5
     go_enter Tryd.func57, Tryd.ntmps57
     go_wp2_with (first | (go_at_call 79; (with_reducible refine (impl_isLetter.calls (bt a0 0) true _ A6.out).mono ?_); rintro e w' ⟨rfl, ⟨nd, rfl⟩⟩) | (go_at_call 77; (with_reducible refine (impl_allBytes_isName_1.calls k a0  t206 _ A8.out).mono ?_); rintro e w' ⟨rfl, ⟨nd, rfl⟩⟩))
     go_ret
     exact ⟨by first | rfl | (simp; done) | (simp [*]; done), by repeat (first | exact Drawn0.refl _ | apply Drawn0.step)⟩
    ·
     replace c7 := Bool.eq_false_iff.mpr c7
     subst c7
     have H1 : (some false) = some r := by rw [if_neg (show ¬ (false = true) by decide)] at H; exact H
     clear H
     have H := H1
     clear H1
     obtain rfl := Option.some.inj H
     have p5 : 0 ≤ (0 : Int) := (by omega)
     have q5 : 0 < a0.size := (by have : (0 : Int) < (a0.size : Int) := of_decide_eq_true (by assumption); omega)
     have hx5 : ∀ h : 0 < a0.size, ((a0[0]'h).toNat : Int) = bt a0 0 := bt_at a0 0
     clear p5
     have qi5 : (0 < (a0.size : Int)) = True := eq_true (of_decide_eq_true (by assumption))
     replace q5 := eq_true q5
     go_enter Tryd.func57, Tryd.ntmps57
     go_wp2_with (first | (go_at_call 79; (with_reducible refine (impl_isLetter.calls (bt a0 0) false _ A6.out).mono ?_); rintro e w' ⟨rfl, ⟨nd, rfl⟩⟩))
     go_ret
     exact ⟨by first | rfl | (simp; done) | (simp [*]; done), by repeat (first | exact Drawn0.refl _ | apply Drawn0.step)⟩
   ·
    rw [if_neg c4] at H
    exact absurd H (by simp)
  ·
   rw [if_neg c3] at H
   have c3b0 : decide ((a0.size : Int) ≤ 30) = false := decide_eq_false c3
   have c3b1 : decide (a0.size ≤ 30) = false := decide_eq_false (by omega)
   clear c3
   obtain rfl := Option.some.inj H
   go_enter Tryd.func57, Tryd.ntmps57
   go_wp2
   go_ret
   exact ⟨by first | rfl | (simp; done) | (simp [*]; done), by repeat (first | exact Drawn0.refl _ | apply Drawn0.step)⟩
 ·
  rw [if_neg c2] at H
  have c2b0 : decide (1 ≤ (a0.size : Int)) = false := decide_eq_false c2
  have c2b1 : decide (1 ≤ a0.size) = false := decide_eq_false (by omega)
  clear c2
  obtain rfl := Option.some.inj H
  go_enter Tryd.func57, Tryd.ntmps57
  go_wp2
  go_ret
  exact ⟨by first | rfl | (simp; done) | (simp [*]; done), by repeat (first | exact Drawn0.refl _ | apply Drawn0.step)⟩

/-! ### impl_isSmallName: function 27 -/
def impl_isSmallName.f (k : Nat) (a0 : ByteArray) : Option (Bool) := (impl_isName.f k a0).bind fun t207 => (if t207 = true then ((impl_LowerText.f a0).bind fun t208 => (some (t208.toList == a0.toList))) else (some false))
set_option maxHeartbeats 8000000 in
set_option maxRecDepth 100000 in
theorem impl_isSmallName.calls (k : Nat) (a0 : ByteArray) (r : Bool) (w : World) (h : impl_isSmallName.f k a0 = some r) :
  Calls Tryd.prog 27 #[.string a0] w fun e w' => e = .returned (.bool r) ∧ Below w.heap.size w w' := by
 have HB := Aside0.mk (Below.refl w.heap.size w)
 have H : ((impl_isName.f k a0).bind fun t207 => (if t207 = true then ((impl_LowerText.f a0).bind fun t208 => (some (t208.toList == a0.toList))) else (some false))) = some r := h
 clear h
 replace H := Option.bind_eq_some_iff.mp H
 obtain ⟨t207, A20, H⟩ := H
 replace H : (if t207 = true then ((impl_LowerText.f a0).bind fun t208 => (some (t208.toList == a0.toList))) else (some false)) = some r := H
 have A2 := Aside0.mk A20
 clear A20
 by_cases c3 : t207 = true
 ·
  subst c3
  have H1 : ((impl_LowerText.f a0).bind fun t208 => (some (t208.toList == a0.toList))) = some r := by rw [if_pos rfl] at H; exact H
  clear H
  have H := H1
  clear H1
  replace H := Option.bind_eq_some_iff.mp H
  obtain ⟨t208, A40, H⟩ := H
  replace H : (some (t208.toList == a0.toList)) = some r := H
  have A4 := Aside0.mk A40
  clear A40
  obtain rfl := Option.some.inj H
  go_enter Tryd.func27, Tryd.ntmps27
  go_wp2_with (first | ((with_reducible refine gate_callee (f := 57) rfl ?_); refine goesL_ (some 4) rfl rfl Tryd.func57 (by kernel_rfl) rfl #[.string a0] rfl ma ?_; (with_reducible refine (impl_isName.calls k a0 true _ A2.out).mono ?_); rintro e w' ⟨rfl, ⟨nd, rfl⟩⟩; refine ⟨_, rfl, ?_⟩) | (go_at_call 38; (with_reducible refine (impl_LowerText.calls a0 t208 _ A4.out).mono ?_); rintro e w5 ⟨rfl, hb⟩; have n0_ := Aside0.mk (below_step (ul HB.out) hb); clear HB; have HB := n0_; clear n0_; (try clear hb); (try clear hb2); (try clear hk); (try clear hi)))
  go_ret
  exact ⟨by first | rfl | (simp [errW_none, errW_some] <;> rfl) | (simp [*, errW_none, errW_some] <;> rfl), ul HB.out⟩
 ·
  replace c3 := Bool.eq_false_iff.mpr c3
  subst c3
  have H1 : (some false) = some r := by rw [if_neg (show ¬ (false = true) by decide)] at H; exact H
  clear H
  have H := H1
  clear H1
  obtain rfl := Option.some.inj H
  go_enter Tryd.func27, Tryd.ntmps27
  go_wp2_with (first | ((with_reducible refine gate_callee (f := 57) rfl ?_); refine goesL_ (some 4) rfl rfl Tryd.func57 (by kernel_rfl) rfl #[.string a0] rfl ma ?_; (with_reducible refine (impl_isName.calls k a0 false _ A2.out).mono ?_); rintro e w' ⟨rfl, ⟨nd, rfl⟩⟩; refine ⟨_, rfl, ?_⟩))
  go_ret
  exact ⟨by first | rfl | (simp [errW_none, errW_some] <;> rfl) | (simp [*, errW_none, errW_some] <;> rfl), ul HB.out⟩

/-! ### impl_TextValid: function 28 -/
def impl_TextValid.l0 : Nat → ByteArray → Int → Int → Option (Bool)
 | 0, _, _, _ => none
 | k + 1, x0, x5, x6 => if x6 < x5 then (if 0 ≤ x6 then (if x6 < (x0.size : Int) then (if (bt x0 x6) < 32 then (some false) else (if (bt x0 x6) > 126 then (some false) else (impl_TextValid.l0 k x0 x5 (wrap64 (x6 + 1))))) else (none)) else (none)) else (some (decide ((x0.size : Int) ≤ 200)))
def impl_TextValid.f (k : Nat) (a0 : ByteArray) : Option (Bool) := impl_TextValid.l0 k a0 (a0.size : Int) 0
set_option maxHeartbeats 8000000 in
set_option maxRecDepth 100000 in
theorem impl_TextValid.calls (k : Nat) (a0 : ByteArray) (r : Bool) (w : World) (h : impl_TextValid.f k a0 = some r) :
  Calls Tryd.prog 28 #[.string a0] w fun e w' => e = .returned (.bool r) ∧ Drawn0 w w' := by
 have H : (impl_TextValid.l0 k a0 (a0.size : Int) 0) = some r := h
 clear h
 have H' := Aside0.mk H
 clear H
 go_enter Tryd.func28, Tryd.ntmps28
 go_wp2
 go_loopg [6] k (fun kq v6 w' => ∃ (x6_1 : Int), v6 = .int .i64 x6_1 ∧ Aside0 (impl_TextValid.l0 kq a0 (a0.size : Int) x6_1 = some r) ∧ Aside0 (kq ≤ k) ∧ Drawn0 w w')
 case atStart => exact ⟨(0), (by first | rfl | (simp; done) | (simp [*]; done)), H', ⟨Nat.le_refl _⟩, by repeat (first | exact Drawn0.refl _ | apply Drawn0.step)⟩
 case round =>
  clear H'
  obtain ⟨x6_1, rfl, HA, HK1, ⟨m1, rfl⟩⟩ := hrel
  cases gk with
  | zero => exact absurd HA.out (by simp [impl_TextValid.l0])
  | succ k1 =>
   have H := HA.out
   clear HA
   simp only [impl_TextValid.l0] at H
   by_cases c2 : x6_1 < (a0.size : Int)
   ·
    rw [if_pos c2] at H
    have c2b0 : decide (x6_1 < (a0.size : Int)) = true := decide_eq_true c2
    clear c2
    by_cases c3 : 0 ≤ x6_1
    ·
     rw [if_pos c3] at H
     have c3b0 : decide (0 ≤ x6_1) = true := decide_eq_true c3
     clear c3
     by_cases c4 : x6_1 < (a0.size : Int)
     ·
      rw [if_pos c4] at H
      have c4b0 : decide (x6_1 < (a0.size : Int)) = true := decide_eq_true c4
      clear c4
      by_cases c6 : (bt a0 x6_1) < 32
      ·
       rw [if_pos c6] at H
       have c6b0 : decide ((bt a0 x6_1) < 32) = true := decide_eq_true c6
       clear c6
       obtain rfl := Option.some.inj H
       have p5 : 0 ≤ (x6_1 : Int) := of_decide_eq_true (by assumption)
       have q5 : x6_1 < (a0.size : Int) := of_decide_eq_true (by assumption)
       have hx5 := bt_at a0 x6_1
       replace p5 := eq_true p5
       replace q5 := eq_true q5
       go_wp2
       go_ret
       exact ⟨by first | rfl | (simp; done) | (simp [*]; done), by repeat (first | exact Drawn0.refl _ | apply Drawn0.step)⟩
      ·
       rw [if_neg c6] at H
       have c6b0 : decide ((bt a0 x6_1) < 32) = false := decide_eq_false c6
       clear c6
       by_cases c8 : (bt a0 x6_1) > 126
       ·
        rw [if_pos c8] at H
        have c8b0 : decide (126 < (bt a0 x6_1)) = true := decide_eq_true c8
        clear c8
        obtain rfl := Option.some.inj H
        have p5 : 0 ≤ (x6_1 : Int) := of_decide_eq_true (by assumption)
        have q5 : x6_1 < (a0.size : Int) := of_decide_eq_true (by assumption)
        have hx5 := bt_at a0 x6_1
        replace p5 := eq_true p5
        replace q5 := eq_true q5
        have p7 : 0 ≤ (x6_1 : Int) := of_decide_eq_true (by assumption)
        have q7 : x6_1 < (a0.size : Int) := of_decide_eq_true (by assumption)
        have hx7 := bt_at a0 x6_1
        replace p7 := eq_true p7
        replace q7 := eq_true q7
        go_wp2
        go_ret
        exact ⟨by first | rfl | (simp; done) | (simp [*]; done), by repeat (first | exact Drawn0.refl _ | apply Drawn0.step)⟩
       ·
        rw [if_neg c8] at H
        have c8b0 : decide (126 < (bt a0 x6_1)) = false := decide_eq_false c8
        clear c8
        have H' := Aside0.mk H
        clear H
        have p5 : 0 ≤ (x6_1 : Int) := of_decide_eq_true (by assumption)
        have q5 : x6_1 < (a0.size : Int) := of_decide_eq_true (by assumption)
        have hx5 := bt_at a0 x6_1
        replace p5 := eq_true p5
        replace q5 := eq_true q5
        have p7 : 0 ≤ (x6_1 : Int) := of_decide_eq_true (by assumption)
        have q7 : x6_1 < (a0.size : Int) := of_decide_eq_true (by assumption)
        have hx7 := bt_at a0 x6_1
        replace p7 := eq_true p7
        replace q7 := eq_true q7
        go_wp2
        go_roundg k1
        case measure => have := HK1.out; omega
        case rel => exact ⟨(wrap64 (x6_1 + 1)), (by first | rfl | (simp; done) | (simp [*]; done)), H', ⟨by have := HK1.out; omega⟩, by repeat (first | exact Drawn0.refl _ | apply Drawn0.step)⟩
     ·
      rw [if_neg c4] at H
      exact absurd H (by simp)
    ·
     rw [if_neg c3] at H
     exact absurd H (by simp)
   ·
    rw [if_neg c2] at H
    have c2b0 : decide (x6_1 < (a0.size : Int)) = false := decide_eq_false c2
    clear c2
    obtain rfl := Option.some.inj H
    go_wp2
    go_ret
    exact ⟨by first | rfl | (simp; done) | (simp [*]; done), by repeat (first | exact Drawn0.refl _ | apply Drawn0.step)⟩

-- NOT PRINTED: function 58 (impl_Field_58)

/-! ### impl_SameText: function 60 -/
def impl_SameText.f (a0 : ByteArray) (a1 : ByteArray) : Option (Bool) := (impl_LowerText.f a0).bind fun t209 => ((impl_LowerText.f a1).bind fun t210 => (some (t209.toList == t210.toList)))
set_option maxHeartbeats 8000000 in
set_option maxRecDepth 100000 in
theorem impl_SameText.calls (a0 : ByteArray) (a1 : ByteArray) (r : Bool) (w : World) (h : impl_SameText.f a0 a1 = some r) :
  Calls Tryd.prog 60 #[.string a0, .string a1] w fun e w' => e = .returned (.bool r) ∧ Below w.heap.size w w' := by
 have HB := Aside0.mk (Below.refl w.heap.size w)
 have H : ((impl_LowerText.f a0).bind fun t209 => ((impl_LowerText.f a1).bind fun t210 => (some (t209.toList == t210.toList)))) = some r := h
 clear h
 replace H := Option.bind_eq_some_iff.mp H
 obtain ⟨t209, A30, H⟩ := H
 replace H : ((impl_LowerText.f a1).bind fun t210 => (some (t209.toList == t210.toList))) = some r := H
 have A3 := Aside0.mk A30
 clear A30
 replace H := Option.bind_eq_some_iff.mp H
 obtain ⟨t210, A40, H⟩ := H
 replace H : (some (t209.toList == t210.toList)) = some r := H
 have A4 := Aside0.mk A40
 clear A40
 obtain rfl := Option.some.inj H
 go_enter Tryd.func60, Tryd.ntmps60
 go_wp2_with (first | ((with_reducible refine gate_callee (f := 38) rfl ?_); refine goesL_ (some 6) rfl rfl Tryd.func38 (by kernel_rfl) rfl #[.string a0] rfl ma ?_; (with_reducible refine (impl_LowerText.calls a0 t209 _ A3.out).mono ?_); rintro e w5 ⟨rfl, hb⟩; refine ⟨_, rfl, ?_⟩; have n0_ := Aside0.mk (below_step (ul HB.out) hb); clear HB; have HB := n0_; clear n0_; (try clear hb); (try clear hb2); (try clear hk); (try clear hi)) | ((with_reducible refine gate_callee (f := 38) rfl ?_); refine goesL_ (some 8) rfl rfl Tryd.func38 (by kernel_rfl) rfl #[.string a1] rfl ma ?_; (with_reducible refine (impl_LowerText.calls a1 t210 _ A4.out).mono ?_); rintro e w6 ⟨rfl, hb⟩; refine ⟨_, rfl, ?_⟩; have n0_ := Aside0.mk (below_step (ul HB.out) hb); clear HB; have HB := n0_; clear n0_; (try clear hb); (try clear hb2); (try clear hk); (try clear hi)))
 go_ret
 exact ⟨by first | rfl | (simp [errW_none, errW_some] <;> rfl) | (simp [*, errW_none, errW_some] <;> rfl), ul HB.out⟩

/-! ### impl_fieldPlace_1: function 59 -/
def impl_fieldPlace_1.f (a0_0 : ByteArray) (a0_1 : ByteArray) (a1 : ByteArray) : Option (Bool) := (impl_SameText.f a0_0 a1).bind fun t212 => (some t212)
set_option maxHeartbeats 8000000 in
set_option maxRecDepth 100000 in
theorem impl_fieldPlace_1.calls (a0_0 : ByteArray) (a0_1 : ByteArray) (gq1 : Nat) (a1 : ByteArray)  (r : Bool) (w : World) (hq1 : w.heap[gq1]? = some (.cells #[.string a1] 9 (0, 0))) (h : impl_fieldPlace_1.f a0_0 a0_1 a1 = some r) :
  Calls Tryd.prog 59 #[.agg #[.string a0_0, .string a0_1], .pointer (some ⟨gq1, 0, none⟩)] w fun e w' => e = .returned (.bool r) ∧ Below w.heap.size w w' := by
 have hu29 := Tryd.underlying29
 have BK46 := Aside0.mk hq1
 clear hq1
 have HB := Aside0.mk (Below.refl w.heap.size w)
 have H : ((impl_SameText.f a0_0 a1).bind fun t212 => (some t212)) = some r := h
 clear h
 replace H := Option.bind_eq_some_iff.mp H
 obtain ⟨t212, A30, H⟩ := H
 replace H : (some t212) = some r := H
 have A3 := Aside0.mk A30
 clear A30
 obtain rfl := Option.some.inj H
 go_enter Tryd.func59, Tryd.ntmps59
 go_wp2_with (first | ((with_reducible refine gate_dst (N := 2) rfl ?_); refine box_event ?hg (N := 2) ?hd (cs := #[.string a0_0, .string a0_1]) (t := 29) ?hr ?_; (case hd => rfl); (case hg => rfl); (case hr => first | (go_simp; done) | (go_simp; rfl)); intro gb211 hg w4 hbox hb; have n0_ := Aside0.mk (blk_below (g := gq1) (o := .cells #[.string a1] 9 (0, 0)) (ub BK46.out) hb); have n1_ := Aside0.mk (below_step bb hb); have n2_ := Aside0.mk (hbox); have n3_ := Aside0.mk ((by rw [hg]; exact (below_size bb) : w.heap.size ≤ gb211)); have n4_ := Aside0.mk ((by rw [hg]; exact (below_size bb) : w.heap.size ≤ gb211)); have n5_ := Aside0.mk ((by rw [hg]; exact Nat.ne_of_lt (blk_lt (g := gq1) (o := .cells #[.string a1] 9 (0, 0)) (ub BK46.out)) : gq1 ≠ gb211)); have n6_ := Aside0.mk ((by rw [hg]; exact Nat.ne_of_gt (blk_lt (g := gq1) (o := .cells #[.string a1] 9 (0, 0)) (ub BK46.out)) : gb211 ≠ gq1)); clear BK46; clear HB; have BK46 := n0_; have HB := n1_; have BK211 := n2_; have GW211 := n3_; have GE211 := n4_; have NB46_211 := n5_; have NB211_46 := n6_; clear n0_ n1_ n2_ n3_ n4_ n5_ n6_; clear hb hbox hg; have hnb5 := NB211_46.out; have hnc5 := NB46_211.out; have hcz6_0 : w4.cell? ⟨gb211, 0, none⟩ = some (.string a0_0) := (blk_cell BK211.out 0).trans rfl; have hcz6_1 : w4.cell? ⟨gb211, 1, none⟩ = some (.string a0_1) := (blk_cell BK211.out 1).trans rfl; have hfz6_0 := blk_frozen BK211.out 0; have hfz6_1 := blk_frozen BK211.out 1; have hcz7_0 : w4.cell? ⟨gq1, 0, none⟩ = some (.string a1) := (blk_cell BK46.out 0).trans rfl; have hfz7_0 := blk_frozen BK46.out 0) | ((with_reducible refine gate_callee (f := 60) rfl ?_); refine goesL_ (some 7) rfl rfl Tryd.func60 (by kernel_rfl) rfl #[.string a0_0, .string a1] rfl ma ?_; (with_reducible refine (impl_SameText.calls a0_0 a1 t212 _ A3.out).mono ?_); rintro e w8 ⟨rfl, hb⟩; refine ⟨_, rfl, ?_⟩; have n0_ := Aside0.mk (blk_below (g := gq1) (o := .cells #[.string a1] 9 (0, 0)) (ub BK46.out) hb); have n1_ := Aside0.mk (blk_below (g := gb211) (o := .cells #[.string a0_0, .string a0_1] 29 (0, 0)) (ub BK211.out) hb); have n2_ := Aside0.mk (below_step bb hb); clear BK46; clear BK211; clear HB; have BK46 := n0_; have BK211 := n1_; have HB := n2_; clear n0_ n1_ n2_; (try clear hb); (try clear hb2); (try clear hk); (try clear hi)))
 go_ret
 exact ⟨by first | rfl | (simp [errW_none, errW_some] <;> rfl) | (simp [*, errW_none, errW_some] <;> rfl), bb⟩

/-! ### impl_Field_fieldPlace_1: function 127 -/
def impl_Field_fieldPlace_1.l0 : Nat → List (S29) → Int → Int → ByteArray → Option (Int)
 | 0, _, _, _, _ => none
 | k + 1, x0, x7, x8, x47000 => if x8 < x7 then (if 0 ≤ x8 then (if x8 < (x0.length : Int) then ((impl_fieldPlace_1.f ((rd_T29 x0 x8).f0) ((rd_T29 x0 x8).f1) x47000).bind fun t214 => (if t214 = true then (some x8) else (impl_Field_fieldPlace_1.l0 k x0 x7 (wrap64 (x8 + 1)) x47000))) else (none)) else (none)) else (some (-1))
def impl_Field_fieldPlace_1.f (k : Nat) (l0 : List (S29)) (a1_0 : ByteArray) : Option (Int) := impl_Field_fieldPlace_1.l0 k l0 (l0.length : Int) 0 a1_0
set_option maxHeartbeats 8000000 in
set_option maxRecDepth 100000 in
theorem impl_Field_fieldPlace_1.calls (k : Nat) (A0 : Option Addr) (c0 : Nat) (l0 : List (S29)) (gq1_0 : Nat) (a1_0 : ByteArray)  (r : Int) (w : World) (hr0 : Kd.C k29 w A0 l0.length l0) (hc0 : l0.length ≤ c0) (hq1_0 : w.heap[gq1_0]? = some (.cells #[.string a1_0] 9 (0, 0))) (h : impl_Field_fieldPlace_1.f k l0 a1_0 = some r) :
  Calls Tryd.prog 58 #[.slice A0 l0.length c0, .func (.func 59) #[] #[.pointer (some ⟨gq1_0, 0, none⟩)]] w fun e w' => e = .returned (.int .i64 r) ∧ Below w.heap.size w w' := by
 have hu29 := Tryd.underlying29
 have HR0 := Aside0.mk hr0
 have HC0 := Aside0.mk hc0
 clear hr0 hc0
 have BK46 := Aside0.mk hq1_0
 clear hq1_0
 have HB := Aside0.mk (Below.refl w.heap.size w)
 have H : (impl_Field_fieldPlace_1.l0 k l0 (l0.length : Int) 0 a1_0) = some r := h
 clear h
 have H' := Aside0.mk H
 clear H
 go_enter Tryd.func58, Tryd.ntmps58
 go_wp2
 go_loopg [8] k (fun kq v8 w' => ∃ (x8_1 : Int), v8 = .int .i64 x8_1 ∧ Aside0 (impl_Field_fieldPlace_1.l0 kq l0 (l0.length : Int) x8_1 a1_0 = some r) ∧ Aside0 (kq ≤ k) ∧ Aside0 (w'.heap[gq1_0]? = some (.cells #[.string a1_0] 9 (0, 0))) ∧ Aside0 (Below w.heap.size w w'))
 case atStart => exact ⟨(0), (by first | rfl | (simp; done) | (simp [*]; done)), H', ⟨Nat.le_refl _⟩, ⟨ub BK46.out⟩, ⟨bb⟩⟩
 case round =>
  clear H'
  try clear c1
  try clear q1
  try clear p2
  obtain ⟨x8_1, rfl, HA, HK1, BK46, HB⟩ := hrel
  cases gk with
  | zero => exact absurd HA.out (by simp [impl_Field_fieldPlace_1.l0])
  | succ k1 =>
   have H := HA.out
   clear HA
   simp only [impl_Field_fieldPlace_1.l0] at H
   by_cases c3 : x8_1 < (l0.length : Int)
   ·
    rw [if_pos c3] at H
    have c3b0 : decide (x8_1 < (l0.length : Int)) = true := decide_eq_true c3
    clear c3
    by_cases c4 : 0 ≤ x8_1
    ·
     rw [if_pos c4] at H
     have c4b0 : decide (0 ≤ x8_1) = true := decide_eq_true c4
     clear c4
     by_cases c5 : x8_1 < (l0.length : Int)
     ·
      rw [if_pos c5] at H
      have c5b0 : decide (x8_1 < (l0.length : Int)) = true := decide_eq_true c5
      clear c5
      replace H := Option.bind_eq_some_iff.mp H
      obtain ⟨t214, A60, H⟩ := H
      replace H : (if t214 = true then (some x8_1) else (impl_Field_fieldPlace_1.l0 k1 l0 (l0.length : Int) (wrap64 (x8_1 + 1)) a1_0)) = some r := H
      have A6 := Aside0.mk A60
      clear A60
      by_cases c7 : t214 = true
      ·
       subst c7
       have H1 : (some x8_1) = some r := by rw [if_pos rfl] at H; exact H
       clear H
       have H := H1
       clear H1
       obtain rfl := Option.some.inj H
       have p213 : 0 ≤ (x8_1 : Int) := of_decide_eq_true (by assumption)
       have q213 : x8_1 < (l0.length : Int) := of_decide_eq_true (by assumption)
       obtain ⟨ad213, e213, hx213_0, hx213_1⟩ := at_T29 HR0.out x8_1 p213 q213
       cases e213
       replace hx213_0 := (HB.out.cell (World.block_lt_of_cell? w _ hx213_0)).trans hx213_0
       replace hx213_1 := (HB.out.cell (World.block_lt_of_cell? w _ hx213_1)).trans hx213_1
       replace p213 := eq_true p213
       replace q213 := eq_true q213
       go_wp2_with (first | (go_at_call 59; (with_reducible refine (impl_fieldPlace_1.calls ((rd_T29 l0 x8_1).f0) ((rd_T29 l0 x8_1).f1) gq1_0 a1_0 true _ ?side1 A6.out).mono ?_); (case side1 => exact ub BK46.out); rintro e w8 ⟨rfl, hb⟩; have n0_ := Aside0.mk (blk_below (g := gq1_0) (o := .cells #[.string a1_0] 9 (0, 0)) (ub BK46.out) hb); have n1_ := Aside0.mk (below_step bb hb); clear BK46; clear HB; have BK46 := n0_; have HB := n1_; clear n0_ n1_; (try clear hb); (try clear hb2); (try clear hk); (try clear hi)))
       go_ret
       exact ⟨by first | rfl | (simp [errW_none, errW_some] <;> rfl) | (simp [*, errW_none, errW_some] <;> rfl), bb⟩
      ·
       replace c7 := Bool.eq_false_iff.mpr c7
       subst c7
       have H1 : (impl_Field_fieldPlace_1.l0 k1 l0 (l0.length : Int) (wrap64 (x8_1 + 1)) a1_0) = some r := by rw [if_neg (show ¬ (false = true) by decide)] at H; exact H
       clear H
       have H := H1
       clear H1
       have H' := Aside0.mk H
       clear H
       have p213 : 0 ≤ (x8_1 : Int) := of_decide_eq_true (by assumption)
       have q213 : x8_1 < (l0.length : Int) := of_decide_eq_true (by assumption)
       obtain ⟨ad213, e213, hx213_0, hx213_1⟩ := at_T29 HR0.out x8_1 p213 q213
       cases e213
       replace hx213_0 := (HB.out.cell (World.block_lt_of_cell? w _ hx213_0)).trans hx213_0
       replace hx213_1 := (HB.out.cell (World.block_lt_of_cell? w _ hx213_1)).trans hx213_1
       replace p213 := eq_true p213
       replace q213 := eq_true q213
       go_wp2_with (first | (go_at_call 59; (with_reducible refine (impl_fieldPlace_1.calls ((rd_T29 l0 x8_1).f0) ((rd_T29 l0 x8_1).f1) gq1_0 a1_0 false _ ?side1 A6.out).mono ?_); (case side1 => exact ub BK46.out); rintro e w9 ⟨rfl, hb⟩; have n0_ := Aside0.mk (blk_below (g := gq1_0) (o := .cells #[.string a1_0] 9 (0, 0)) (ub BK46.out) hb); have n1_ := Aside0.mk (below_step bb hb); clear BK46; clear HB; have BK46 := n0_; have HB := n1_; clear n0_ n1_; (try clear hb); (try clear hb2); (try clear hk); (try clear hi)))
       go_roundg k1
       case measure => have := HK1.out; omega
       case rel => exact ⟨(wrap64 (x8_1 + 1)), (by first | rfl | (simp; done) | (simp [*]; done)), H', ⟨by have := HK1.out; omega⟩, ⟨ub BK46.out⟩, ⟨bb⟩⟩
     ·
      rw [if_neg c5] at H
      exact absurd H (by simp)
    ·
     rw [if_neg c4] at H
     exact absurd H (by simp)
   ·
    rw [if_neg c3] at H
    have c3b0 : decide (x8_1 < (l0.length : Int)) = false := decide_eq_false c3
    clear c3
    obtain rfl := Option.some.inj H
    go_wp2
    go_ret
    exact ⟨by first | rfl | (simp [errW_none, errW_some] <;> rfl) | (simp [*, errW_none, errW_some] <;> rfl), bb⟩

/-! ### impl_fieldPlace: function 29 -/
def impl_fieldPlace.f (k : Nat) (l0 : List (S29)) (a1 : ByteArray) : Option (Int) := (impl_Field_fieldPlace_1.f k l0 a1).bind fun t216 => (some t216)
set_option maxHeartbeats 8000000 in
set_option maxRecDepth 100000 in
theorem impl_fieldPlace.calls (k : Nat) (A0 : Option Addr) (c0 : Nat) (l0 : List (S29)) (a1 : ByteArray) (r : Int) (w : World) (hr0 : Kd.C k29 w A0 l0.length l0) (hc0 : l0.length ≤ c0) (h : impl_fieldPlace.f k l0 a1 = some r) :
  Calls Tryd.prog 29 #[.slice A0 l0.length c0, .string a1] w fun e w' => e = .returned (.int .i64 r) ∧ Below w.heap.size w w' := by
 have HR0 := Aside0.mk hr0
 have HC0 := Aside0.mk hc0
 clear hr0 hc0
 have HB := Aside0.mk (Below.refl w.heap.size w)
 have H : ((impl_Field_fieldPlace_1.f k l0 a1).bind fun t216 => (some t216)) = some r := h
 clear h
 replace H := Option.bind_eq_some_iff.mp H
 obtain ⟨t216, A30, H⟩ := H
 replace H : (some t216) = some r := H
 have A3 := Aside0.mk A30
 clear A30
 obtain rfl := Option.some.inj H
 go_enter Tryd.func29, Tryd.ntmps29
 go_wp2_with (first | ((with_reducible refine gate_dst (N := 3) rfl ?_); refine box_event ?hg (N := 3) ?hd (cs := #[.string a1]) (t := 9) ?hr ?_; (case hd => rfl); (case hg => rfl); (case hr => first | (go_simp; done) | (go_simp; rfl)); intro gb215 hg w4 hbox hb; have n0_ := Aside0.mk (below_step (ul HB.out) hb); have n1_ := Aside0.mk (hbox); have n2_ := Aside0.mk ((by rw [hg]; exact (below_size (ul HB.out)) : w.heap.size ≤ gb215)); have n3_ := Aside0.mk ((by rw [hg]; exact (below_size (ul HB.out)) : w.heap.size ≤ gb215)); clear HB; have HB := n0_; have BK215 := n1_; have GW215 := n2_; have GE215 := n3_; clear n0_ n1_ n2_ n3_; clear hb hbox hg) | ((with_reducible refine gate_callee (f := 58) rfl ?_); refine goesL_ (some 7) rfl rfl Tryd.func58 (by kernel_rfl) rfl #[.slice A0 l0.length c0, .func (.func 59) #[] #[.pointer (some ⟨gb215, 0, none⟩)]] rfl ma ?_; (with_reducible refine (impl_Field_fieldPlace_1.calls k _ _ l0 gb215 a1 t216 _ ?side1 ?side2 ?side3 A3.out).mono ?_); (case side1 => repeat (first | exact (Kd.C_below HR0.out HB.out) | (with_reducible refine Kd.C_alloc ?_ _) | (with_reducible refine Kd.C_drewN ?_ _) | (with_reducible refine Kd.C_drew ?_))); (case side2 => exact HC0.out); (case side3 => exact ub BK215.out); rintro e w5 ⟨rfl, hb⟩; refine ⟨_, rfl, ?_⟩; have n0_ := Aside0.mk (blk_below (g := gb215) (o := .cells #[.string a1] 9 (0, 0)) (ub BK215.out) hb); have n1_ := Aside0.mk (below_step bb hb); clear BK215; clear HB; have BK215 := n0_; have HB := n1_; clear n0_ n1_; (try clear hb); (try clear hb2); (try clear hk); (try clear hi)))
 go_ret
 exact ⟨by first | rfl | (simp [errW_none, errW_some] <;> rfl) | (simp [*, errW_none, errW_some] <;> rfl), bb⟩

end Go.Proofs.YtengipddcaookaaDoor.PFnKindParam
