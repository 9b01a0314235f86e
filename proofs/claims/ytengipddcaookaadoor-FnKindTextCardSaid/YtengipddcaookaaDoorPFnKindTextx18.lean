/- Written by a program of this session out of the translation: each Go function named below as a Lean function, and the proof that the call answers as that function does; conditions: those in each statement. -/
import Derived.Test.YtengipddcaookaaDoorVFnKindTextYt
import Derived.Test.YtengipddcaookaaDoorPFnKindTextx0
import Derived.Test.YtengipddcaookaaDoorPFnKindTextx5
import Derived.Test.YtengipddcaookaaDoorPFnKindTextx8
import Derived.Test.YtengipddcaookaaDoorPFnKindTextx11
import Derived.Test.YtengipddcaookaaDoorPFnKindTextx14
import Derived.Test.YtengipddcaookaaDoorPFnKindTextx16
import Derived.Test.YtengipddcaookaaDoorPFnKindTextx17
-- short
-- by hand
-- dense
namespace Go.Proofs.YtengipddcaookaaDoor.PFnKindText
open Go.RowKit Go.Proofs.YtengipddcaookaaDoor.X Go.Proofs.YtengipddcaookaaDoorW.PrintWords Go.Proofs.YtengipddcaookaaDoorW.PrintLast Go.Proofs.YtengipddcaookaaDoorW.PrintMore
attribute [local go_sem] max2_int min2_int max_two min_two max_three min_three max_four min_four   -- for this text's walks alone
set_option linter.unusedVariables false
set_option linter.unusedSimpArgs false

/-! ### laws_FnKindText: function 7 (by hand) -/
def laws_FnKindText.T5 : Bool × List (List Nat × List Nat) := (true, [([], []), ([], []), ([1], [1]), ([0, 2], [0, 2]), ([3, 2], [3]), ([4], [4]), ([5, 4], [4, 5]), ([4], [4]), ([7, 4, 4], [4, 7]), ([6, 8, 4], [4, 6, 8]), ([4, 9], [4, 9]), ([10, 8], [10]), ([11], [11]), ([12, 11, 11], [11, 12]), ([11], [11]), ([14, 13, 11], [11, 14]), ([13, 15, 11], [11, 13, 15]), ([11, 16], [11, 16])])
def laws_FnKindText.B5 : List Nat := [0, 0, 2, 7, 15, 31, 63, 31, 159, 511, 1023, 2047, 4095, 8191, 4095, 32767, 65535, 131071]
theorem laws_FnKindText.tab5 : rtab .any (opsOf Tryd.f7 5) = laws_FnKindText.T5 := by kernel_rfl
theorem laws_FnKindText.bits5 : waitsOk laws_FnKindText.T5.2 laws_FnKindText.B5 = true := by kernel_rfl
/-- What the law's callees answer at k rounds. -/
def laws_FnKindText.Ok (k : Nat) (l0 l1 : List Int) : Prop :=
 ((l0.length : Int) > 1048576 ∨ (l1.length : Int) > 1048576) ∨ (¬ (l0.length : Int) > 1048576 ∧ ¬ (l1.length : Int) > 1048576) ∧ ∃ (t479 t480 : ByteArray) (t481 : List S29) (t485 : ByteArray) (v : Bool),
  spec_DrawFormatKind.f k l0 = some (t479, t480, t481) ∧ impl_FormatKind.f k t479 t480 t481 = some t485 ∧ spec_FormatKind.f k t479 t480 t481 = some t485 ∧ impl_KindValid.f k t479 t480 t481 = some v ∧ spec_KindValid.f k t479 t480 t481 = some v ∧ (t485.toList != ([] : List UInt8)) = v ∧
  (t485.toList = [] ∨ t485.toList ≠ [] ∧ ∃ (t490 t491 : ByteArray) (t492 : List S29), impl_ParseKind.f k t485 = some (t490, t491, t492, true) ∧ impl_KindSame.f k t490 t491 t492 t479 t480 t481 = some true) ∧
  ∃ (t498 t499 t500 : ByteArray) (t501 : List S29) (t504 : Bool), spec_DrawParseKind.f k l1 = some t498 ∧ impl_ParseKind.f k t498 = some (t499, t500, t501, t504) ∧ spec_ParseKind.f k t498 = some (t499, t500, t501, t504) ∧ impl_KindSame.f k t499 t500 t501 t499 t500 t501 = some true ∧
   (t504 = false ∨ t504 = true ∧ ∃ t515 : ByteArray, impl_FormatKind.f k t499 t500 t501 = some t515 ∧ impl_ParseKind.f k t515 = some (t499, t500, t501, true) ∧ impl_KindValid.f k t499 t500 t501 = some true)
set_option maxHeartbeats 8000000 in
set_option maxRecDepth 100000 in
theorem laws_FnKindText.calls (k : Nat) (A0 : Option Addr) (c0 : Nat) (l0 : List Int) (A1 : Option Addr) (c1 : Nat) (l1 : List Int) (w : World) (hr0 : Kd.C (Kd.int .u8) w A0 l0.length l0) (hc0 : l0.length ≤ c0) (hr1 : Kd.C (Kd.int .u8) w A1 l1.length l1) (hc1 : l1.length ≤ c1) (hg_ : MaxOk w) (h : laws_FnKindText.Ok k l0 l1) :
  Calls Tryd.prog 7 #[.slice A0 l0.length c0, .slice A1 l1.length c1] w fun e w' => e = .returned (.bool true) ∧ Below w.heap.size w w' := by
 have hu25 := Tryd.underlying25
 have hu29 := Tryd.underlying29
 have HR0 := Aside0.mk hr0
 have HC0 := Aside0.mk hc0
 have HR1 := Aside0.mk hr1
 have HC1 := Aside0.mk hc1
 have HG := Aside0.mk hg_
 clear hr0 hc0 hr1 hc1 hg_
 have HB := Aside0.mk (Below.refl w.heap.size w)
 rcases h with h | ⟨⟨h1, h2⟩, t479, t480, t481, t485, v, e6, e7, e14, e16, e22, ev, h7, t498, t499, t500, t501, t504, e56, e57, e58, e59, h8⟩
 ·
  by_cases h0 : (l0.length : Int) > 1048576
  ·
   have c4b0 : decide (1048576 < (l0.length : Int)) = true := decide_eq_true h0
   have c4b1 : decide (1048576 < l0.length) = true := decide_eq_true (by omega)
   clear h h0
   go_enter Tryd.func7, Tryd.ntmps7
   go_wp2
   go_ret
   exact ⟨rfl, ul HB.out⟩
  ·
   have h1 := h.resolve_left h0
   have c4b0 : decide (1048576 < (l0.length : Int)) = false := decide_eq_false h0
   have c4b1 : decide (1048576 < l0.length) = false := decide_eq_false (by omega)
   have c5b0 : decide (1048576 < (l1.length : Int)) = true := decide_eq_true h1
   have c5b1 : decide (1048576 < l1.length) = true := decide_eq_true (by omega)
   clear h h0 h1
   go_enter Tryd.func7, Tryd.ntmps7
   go_wp2
   go_ret
   exact ⟨rfl, ul HB.out⟩
 have c4b0 : decide (1048576 < (l0.length : Int)) = false := decide_eq_false h1
 have c4b1 : decide (1048576 < l0.length) = false := decide_eq_false (by omega)
 have c5b0 : decide (1048576 < (l1.length : Int)) = false := decide_eq_false h2
 have c5b1 : decide (1048576 < l1.length) = false := decide_eq_false (by omega)
 have A6 := Aside0.mk e6
 have A7 := Aside0.mk e7
 have A14 := Aside0.mk e14
 have A16 := Aside0.mk e16
 have A22 := Aside0.mk e22
 have EV := Aside0.mk ev
 have H7 := Aside0.mk h7
 have A56 := Aside0.mk e56
 have A57 := Aside0.mk e57
 have A58 := Aside0.mk e58
 have A72 := Aside0.mk e59
 have H8 := Aside0.mk h8
 clear h1 h2 e6 e7 e14 e16 e22 ev h7 e56 e57 e58 e59 h8
 go_enter Tryd.func7, Tryd.ntmps7
 go_upto_region 5 with (first | ((with_reducible refine gate_callee (f := 14) rfl ?_); refine goesL_ (some 25) rfl rfl Tryd.func14 (by kernel_rfl) rfl #[.slice A0 l0.length c0] rfl ma ?_; (with_reducible refine (spec_DrawFormatKind.calls k _ _ l0 t479 t480 t481 _ ?side1 ?side2 A6.out).mono ?_); (case side1 => repeat (first | exact (Kd.C_below HR0.out HB.out) | (with_reducible refine Kd.C_alloc ?_ _) | (with_reducible refine Kd.C_drewN ?_ _) | (with_reducible refine Kd.C_drew ?_))); (case side2 => exact HC0.out); rintro e w9 ⟨v482, rfl, ho0, hb⟩; refine ⟨_, rfl, ?_⟩; have n0_ := Aside0.mk (Kd.R_lower ho0 (below_size (ul HB.out))); have n1_ := Aside0.mk (below_step (ul HB.out) hb); clear HB; have HO483 := n0_; have HB := n1_; clear n0_ n1_; (try clear hb); (try clear hb2); (try clear hk); (try clear hi); (try clear ho0)) | ((with_reducible refine gate_dst (N := 5) rfl ?_); (try (refine gate_guard (by rfl) ?_; dsimp only)); refine box_event ?hg (N := 5) ?hd (cs := #[.string (⟨#[]⟩ : ByteArray), .string (⟨#[]⟩ : ByteArray), .slice none 0 0]) (t := 25) ?hr ?_; (case hd => rfl); (case hg => rfl); (case hr => first | (go_simp; done) | (go_simp; rfl)); intro gb484 hg w10 hbox hb; have n0_ := Aside0.mk (Kd.R_below (ur HO483.out) hb); have n1_ := Aside0.mk (below_step (ul HB.out) hb); have n2_ := Aside0.mk (hbox); have n3_ := Aside0.mk ((by rw [hg]; exact (below_size (ul HB.out)) : w.heap.size ≤ gb484)); have n4_ := Aside0.mk ((by rw [hg]; exact (below_size (ul HB.out)) : w.heap.size ≤ gb484)); clear HO483; clear HB; have HO483 := n0_; have HB := n1_; have BK484 := n2_; have GW484 := n3_; have GE484 := n4_; clear n0_ n1_ n2_ n3_ n4_; clear hb hbox hg; obtain ⟨hcz11_0, hcz11_1, hcz11_2, hfz11_0, hfz11_1, hfz11_2⟩ := cz3 BK484.out; obtain ⟨Ao12, co12, eo12⟩ := Kd.R_slice HO483.out; subst eo12) | ((with_reducible refine gate_callee (f := 12) rfl ?_); refine goesL_ (some 27) rfl rfl Tryd.func12 (by kernel_rfl) rfl #[.agg #[.string t479, .string t480, .slice Ao12 t481.length co12]] rfl ma ?_; (with_reducible refine (impl_FormatKind.calls k t479 t480 _ _ t481 t485 _ ?side1 ?side2 A7.out).mono ?_); (case side1 => refine (Kd.R_reads' (e := 29) (base := w.heap.size) (ok := fun k_ => True) (n := t481.length) (c := co12) ?_).2.2; exact (ur (Kd.R_mono (Kd.R_far (p := ⟨gb484, 2, none⟩) (Kd.R_far (p := ⟨gb484, 1, none⟩) (Kd.R_far (p := ⟨gb484, 0, none⟩) (Kd.R_types HO483.out BK484.out (by decide)) (fun _ hk => hk.2) (.string t479)) (fun _ hk => hk.2) (.string t480)) (fun _ hk => hk.2) (.slice Ao12 t481.length co12)) (fun _ h_ => h_.1)))); (case side2 => exact (Kd.R_reads' HO483.out).2.1); rintro e w13 ⟨rfl, hb⟩; refine ⟨_, rfl, ?_⟩; have n0_ := Aside0.mk (Kd.R_below (ur (Kd.R_mono (Kd.R_far (p := ⟨gb484, 2, none⟩) (Kd.R_far (p := ⟨gb484, 1, none⟩) (Kd.R_far (p := ⟨gb484, 0, none⟩) (Kd.R_types HO483.out BK484.out (by decide)) (fun _ hk => hk.2) (.string t479)) (fun _ hk => hk.2) (.string t480)) (fun _ hk => hk.2) (.slice Ao12 t481.length co12)) (fun _ h_ => h_.1))) hb); have n1_ := Aside0.mk (blk_below (g := gb484) (o := .cells #[.string t479, .string t480, .slice Ao12 t481.length co12] 25 (0, 0)) (by (with_reducible repeat (first | refine blk_drewN ?_ _ | refine blk_drew ?_ | refine blk_alloc ?_ _)); refine blk_put (cs := #[.string t479, .string t480, .slice none 0 0]) ?_ 2 _ rfl; (with_reducible repeat (first | refine blk_drewN ?_ _ | refine blk_drew ?_ | refine blk_alloc ?_ _)); refine blk_put (cs := #[.string t479, .string (⟨#[]⟩ : ByteArray), .slice none 0 0]) ?_ 1 _ rfl; (with_reducible repeat (first | refine blk_drewN ?_ _ | refine blk_drew ?_ | refine blk_alloc ?_ _)); refine blk_put (cs := #[.string (⟨#[]⟩ : ByteArray), .string (⟨#[]⟩ : ByteArray), .slice none 0 0]) ?_ 0 _ rfl; (with_reducible repeat (first | refine blk_drewN ?_ _ | refine blk_drew ?_ | refine blk_alloc ?_ _)); exact BK484.out) hb); have n2_ := Aside0.mk (below_step bb hb); clear HO483; clear BK484; clear HB; have HO483 := n0_; have BK484 := n1_; have HB := n2_; clear n0_ n1_ n2_; (try clear hb); (try clear hb2); (try clear hk); (try clear hi)))
 (try simp only [Act.put, l_a, l_b, l_c])
 go_cut [45] (fun v45 wc => v45 = .bool false ∧ Aside0 (Kd.R k29 29 wc w.heap.size (fun _ => True) (.slice Ao12 t481.length co12) t481) ∧ Aside0 (wc.heap[gb484]? = some (.cells #[.string t479, .string t480, (.slice Ao12 t481.length co12)] 25 (0, 0))) ∧ Aside0 (Below w.heap.size w wc))
 case first =>
  have c15b0 : (t485.toList == t485.toList) = true := by simp
  have c15b1 : (t485.toList != t485.toList) = false := by simp
  have c17b0 : ((t485.toList != ([] : List UInt8)) != v) = false := by rw [EV.out]; simp
  have c17b1 : decide ((t485.toList != ([] : List UInt8)) = v) = true := by rw [EV.out]; simp
  have c17c1 : ((!t485.toList.isEmpty) == v) = true := by rw [← EV.out]; cases t485.toList <;> rfl
  have c17c2 : (!((!t485.toList.isEmpty) == v)) = false := by rw [c17c1]; rfl
  have c17b2 : ((t485.toList != ([] : List UInt8)) == v) = true := by rw [EV.out]; simp
  have c18b0 : (v != v) = false := by simp
  have c18b1 : (v == v) = true := by simp
  try go_wp2
  have n0_ := Aside0.mk (Kd.R_drew HO483.out)
  have n1_ := Aside0.mk (blk_drew BK484.out)
  have n2_ := Aside0.mk (below_drew1 HB.out)
  clear HO483
  clear BK484
  clear HB
  have HO483 := n0_
  have BK484 := n1_
  have HB := n2_
  clear n0_ n1_ n2_
  refine start_ (n := 18) (S := fun w' => w'.cell? ⟨gb484, 0, none⟩ = some (.string t479) ∧ w'.cell? ⟨gb484, 1, none⟩ = some (.string t480) ∧ w'.cell? ⟨gb484, 2, none⟩ = some (.slice Ao12 t481.length co12)) (ds := []) #[false, false, false, false, false, false, false, false, false, false, false, false, false, false, false, false, false, false] (by kernel_rfl) rfl rfl ⟨(blk_cell BK484.out 0).trans rfl, (blk_cell BK484.out 1).trans rfl, (blk_cell BK484.out 2).trans rfl⟩ (fun hHeld => ?_); refine with_tabW laws_FnKindText.tab5 laws_FnKindText.bits5 (fun HT_ HW_ => ?_)
  generalize w13.drew = w23 at HO483 BK484 HB hHeld ⊢
  refine pure_ (i := 0) (N := some 28) (v := ?_) (a' := ?_) #[true, false, false, false, false, false, false, false, false, false, false, false, false, false, false, false, false, false] rfl rfl (any_of HT_.out (by kernel_rfl)) (fun _ _ _ h => h) (Or.inl ⟨by rfl, ?_⟩) ?_ ?_
  rotate_left
  ·
   intro w'
   go_simp
   with_reducible rfl
  rotate_left
  ·
   simp only [Act.put, l_a, l_b, l_c, i64_w, i32_w]
   rfl
  refine take_ (i := 1) (N := some 29) (v := ?_) (a' := ?_) #[true, true, false, false, false, false, false, false, false, false, false, false, false, false, false, false, false, false] rfl rfl (take_ofW HT_.out HW_.out (by kernel_rfl)) (fun _ _ _ h => h) (Or.inl ⟨by rfl, ?_⟩) hHeld ?_ ?_
  rotate_left
  ·
   rintro w' ⟨s0, s1, s2⟩
   go_simp
   with_reducible rfl
  rotate_left
  ·
   simp only [Act.put, l_a, l_b, l_c, i64_w, i32_w]
   rfl
  refine one_ (i := 2) (N := some 30) #[true, true, true, false, false, false, false, false, false, false, false, false, false, false, false, false, false, false] rfl rfl (one_of HT_.out (by kernel_rfl)) (by decide) (fun K hK => ?_)
  refine goes_ Tryd.func15 (by kernel_rfl) rfl #[.agg #[.string t479, .string t480, .slice Ao12 t481.length co12]] (by rfl) rfl rfl ma ?_
  with_reducible refine (spec_FormatKind.calls k t479 t480 _ _ t481 t485 _ ?side1 ?side2 A14.out).mono ?_
  (case side1 => repeat (first | exact (Kd.R_reads' HO483.out).2.2 | (with_reducible refine Kd.C_alloc ?_ _) | (with_reducible refine Kd.C_drewN ?_ _) | (with_reducible refine Kd.C_drew ?_)))
  (case side2 => exact (Kd.R_reads' HO483.out).2.1)
  rintro e w24 ⟨rfl, hb⟩
  refine ⟨_, rfl, ?_⟩
  have n0_ := Aside0.mk (Kd.R_below (ur HO483.out) hb)
  have n1_ := Aside0.mk (blk_below (ub BK484.out) hb)
  have n2_ := Aside0.mk (below_step bb hb)
  clear HO483
  clear BK484
  clear HB
  have HO483 := n0_
  have BK484 := n1_
  have HB := n2_
  clear n0_ n1_ n2_
  (try clear hb)
  (try clear hb2)
  (try clear hk)
  (try clear hi)
  refine hK.out _ _ ⟨(blk_cell BK484.out 0).trans rfl, (blk_cell BK484.out 1).trans rfl, (blk_cell BK484.out 2).trans rfl⟩ (fun hHeld => ?_)
  clear hK K
  refine norm_ (a' := ?_) ?_ ?_
  rotate_left
  ·
   show Act.put _ (some 30) _ = _
   simp only [Act.put, l_a, l_b, l_c, i64_w, i32_w]
   rfl
  refine pure_ (i := 3) (N := some 31) (v := ?_) (a' := ?_) #[true, true, true, true, false, false, false, false, false, false, false, false, false, false, false, false, false, false] rfl rfl (any_of HT_.out (by kernel_rfl)) (fun _ _ _ h => h) (Or.inl ⟨by rfl, ?_⟩) ?_ ?_
  rotate_left
  ·
   intro w'
   go_simp
   with_reducible rfl
  rotate_left
  ·
   simp only [Act.put, l_a, l_b, l_c, i64_w, i32_w]
   rfl
  refine pure_ (i := 4) (N := some 32) (v := ?_) (a' := ?_) #[true, true, true, true, true, false, false, false, false, false, false, false, false, false, false, false, false, false] rfl rfl (any_of HT_.out (by kernel_rfl)) (fun _ _ _ h => h) (Or.inl ⟨by rfl, ?_⟩) ?_ ?_
  rotate_left
  ·
   intro w'
   go_simp
   with_reducible rfl
  rotate_left
  ·
   simp only [Act.put, l_a, l_b, l_c, i64_w, i32_w]
   rfl
  refine pure_ (i := 5) (N := some 33) (v := ?_) (a' := ?_) #[true, true, true, true, true, true, false, false, false, false, false, false, false, false, false, false, false, false] rfl rfl (any_of HT_.out (by kernel_rfl)) (fun _ _ _ h => h) (Or.inl ⟨by rfl, ?_⟩) ?_ ?_
  rotate_left
  ·
   intro w'
   go_simp
   with_reducible rfl
  rotate_left
  ·
   simp only [Act.put, l_a, l_b, l_c, i64_w, i32_w]
   rfl
  refine pure_ (i := 6) (N := some 34) (v := ?_) (a' := ?_) #[true, true, true, true, true, true, true, false, false, false, false, false, false, false, false, false, false, false] rfl rfl (any_of HT_.out (by kernel_rfl)) (fun _ _ _ h => h) (Or.inl ⟨by rfl, ?_⟩) ?_ ?_
  rotate_left
  ·
   intro w'
   go_simp
   with_reducible rfl
  rotate_left
  ·
   simp only [Act.put, l_a, l_b, l_c, i64_w, i32_w]
   rfl
  refine take_ (i := 7) (N := some 35) (v := ?_) (a' := ?_) #[true, true, true, true, true, true, true, true, false, false, false, false, false, false, false, false, false, false] rfl rfl (take_ofW HT_.out HW_.out (by kernel_rfl)) (fun _ _ _ h => h) (Or.inl ⟨by rfl, ?_⟩) hHeld ?_ ?_
  rotate_left
  ·
   rintro w' ⟨s0, s1, s2⟩
   go_simp
   with_reducible rfl
  rotate_left
  ·
   simp only [Act.put, l_a, l_b, l_c, i64_w, i32_w]
   rfl
  refine one_ (i := 8) (N := some 36) #[true, true, true, true, true, true, true, true, true, false, false, false, false, false, false, false, false, false] rfl rfl (one_of HT_.out (by kernel_rfl)) (by decide) (fun K hK => ?_)
  refine goes_ Tryd.func9 (by kernel_rfl) rfl #[.agg #[.string t479, .string t480, .slice Ao12 t481.length co12]] (by rfl) rfl rfl ma ?_
  with_reducible refine (impl_KindValid.calls k t479 t480 _ _ t481 v _ ?side1 ?side2 A16.out).mono ?_
  (case side1 => repeat (first | exact (Kd.R_reads' HO483.out).2.2 | (with_reducible refine Kd.C_alloc ?_ _) | (with_reducible refine Kd.C_drewN ?_ _) | (with_reducible refine Kd.C_drew ?_)))
  (case side2 => exact (Kd.R_reads' HO483.out).2.1)
  rintro e w25 ⟨rfl, hb⟩
  refine ⟨_, rfl, ?_⟩
  have n0_ := Aside0.mk (Kd.R_below (ur HO483.out) hb)
  have n1_ := Aside0.mk (blk_below (ub BK484.out) hb)
  have n2_ := Aside0.mk (below_step bb hb)
  clear HO483
  clear BK484
  clear HB
  have HO483 := n0_
  have BK484 := n1_
  have HB := n2_
  clear n0_ n1_ n2_
  (try clear hb)
  (try clear hb2)
  (try clear hk)
  (try clear hi)
  refine hK.out _ _ ⟨(blk_cell BK484.out 0).trans rfl, (blk_cell BK484.out 1).trans rfl, (blk_cell BK484.out 2).trans rfl⟩ (fun hHeld => ?_)
  clear hK K
  refine norm_ (a' := ?_) ?_ ?_
  rotate_left
  ·
   show Act.put _ (some 36) _ = _
   simp only [Act.put, l_a, l_b, l_c, i64_w, i32_w]
   rfl
  refine pure_ (i := 9) (N := some 37) (v := ?_) (a' := ?_) #[true, true, true, true, true, true, true, true, true, true, false, false, false, false, false, false, false, false] rfl rfl (any_of HT_.out (by kernel_rfl)) (fun _ _ _ h => h) (Or.inl ⟨by rfl, ?_⟩) ?_ ?_
  rotate_left
  ·
   intro w'
   go_simp
   with_reducible rfl
  rotate_left
  ·
   simp only [Act.put, l_a, l_b, l_c, i64_w, i32_w]
   rfl
  refine pure_ (i := 10) (N := some 38) (v := ?_) (a' := ?_) #[true, true, true, true, true, true, true, true, true, true, true, false, false, false, false, false, false, false] rfl rfl (any_of HT_.out (by kernel_rfl)) (fun _ _ _ h => h) (Or.inl ⟨by rfl, ?_⟩) ?_ ?_
  rotate_left
  ·
   intro w'
   go_simp
   with_reducible rfl
  rotate_left
  ·
   simp only [Act.put, l_a, l_b, l_c, i64_w, i32_w]
   rfl
  refine pure_ (i := 11) (N := some 39) (v := ?_) (a' := ?_) #[true, true, true, true, true, true, true, true, true, true, true, true, false, false, false, false, false, false] rfl rfl (any_of HT_.out (by kernel_rfl)) (fun _ _ _ h => h) (Or.inl ⟨by rfl, ?_⟩) ?_ ?_
  rotate_left
  ·
   intro w'
   go_simp
   with_reducible rfl
  rotate_left
  ·
   simp only [Act.put, l_a, l_b, l_c, i64_w, i32_w]
   rfl
  refine take_ (i := 12) (N := some 40) (v := ?_) (a' := ?_) #[true, true, true, true, true, true, true, true, true, true, true, true, true, false, false, false, false, false] rfl rfl (take_ofW HT_.out HW_.out (by kernel_rfl)) (fun _ _ _ h => h) (Or.inl ⟨by rfl, ?_⟩) hHeld ?_ ?_
  rotate_left
  ·
   rintro w' ⟨s0, s1, s2⟩
   go_simp
   with_reducible rfl
  rotate_left
  ·
   simp only [Act.put, l_a, l_b, l_c, i64_w, i32_w]
   rfl
  refine take_ (i := 14) (N := some 42) (v := ?_) (a' := ?_) #[true, true, true, true, true, true, true, true, true, true, true, true, true, false, true, false, false, false] rfl rfl (take_ofW HT_.out HW_.out (by kernel_rfl)) (fun _ _ _ h => h) (Or.inl ⟨by rfl, ?_⟩) hHeld ?_ ?_
  rotate_left
  ·
   rintro w' ⟨s0, s1, s2⟩
   go_simp
   with_reducible rfl
  rotate_left
  ·
   simp only [Act.put, l_a, l_b, l_c, i64_w, i32_w]
   rfl
  refine one_ (i := 13) (N := some 41) #[true, true, true, true, true, true, true, true, true, true, true, true, true, true, true, false, false, false] rfl rfl (one_of HT_.out (by kernel_rfl)) (by decide) (fun K hK => ?_)
  refine goes_ Tryd.func9 (by kernel_rfl) rfl #[.agg #[.string t479, .string t480, .slice Ao12 t481.length co12]] (by rfl) rfl rfl ma ?_
  with_reducible refine (impl_KindValid.calls k t479 t480 _ _ t481 v _ ?side1 ?side2 A16.out).mono ?_
  (case side1 => repeat (first | exact (Kd.R_reads' HO483.out).2.2 | (with_reducible refine Kd.C_alloc ?_ _) | (with_reducible refine Kd.C_drewN ?_ _) | (with_reducible refine Kd.C_drew ?_)))
  (case side2 => exact (Kd.R_reads' HO483.out).2.1)
  rintro e w26 ⟨rfl, hb⟩
  refine ⟨_, rfl, ?_⟩
  have n0_ := Aside0.mk (Kd.R_below (ur HO483.out) hb)
  have n1_ := Aside0.mk (blk_below (ub BK484.out) hb)
  have n2_ := Aside0.mk (below_step bb hb)
  clear HO483
  clear BK484
  clear HB
  have HO483 := n0_
  have BK484 := n1_
  have HB := n2_
  clear n0_ n1_ n2_
  (try clear hb)
  (try clear hb2)
  (try clear hk)
  (try clear hi)
  refine hK.out _ _ ⟨(blk_cell BK484.out 0).trans rfl, (blk_cell BK484.out 1).trans rfl, (blk_cell BK484.out 2).trans rfl⟩ (fun hHeld => ?_)
  clear hK K
  refine norm_ (a' := ?_) ?_ ?_
  rotate_left
  ·
   show Act.put _ (some 41) _ = _
   simp only [Act.put, l_a, l_b, l_c, i64_w, i32_w]
   rfl
  refine one_ (i := 15) (N := some 43) #[true, true, true, true, true, true, true, true, true, true, true, true, true, true, true, true, false, false] rfl rfl (one_of HT_.out (by kernel_rfl)) (by decide) (fun K hK => ?_)
  refine goes_ Tryd.func10 (by kernel_rfl) rfl #[.agg #[.string t479, .string t480, .slice Ao12 t481.length co12]] (by rfl) rfl rfl ma ?_
  with_reducible refine (spec_KindValid.calls k t479 t480 _ _ t481 v _ ?side1 ?side2 A22.out).mono ?_
  (case side1 => repeat (first | exact (Kd.R_reads' HO483.out).2.2 | (with_reducible refine Kd.C_alloc ?_ _) | (with_reducible refine Kd.C_drewN ?_ _) | (with_reducible refine Kd.C_drew ?_)))
  (case side2 => exact (Kd.R_reads' HO483.out).2.1)
  rintro e w27 ⟨rfl, hb⟩
  refine ⟨_, rfl, ?_⟩
  have n0_ := Aside0.mk (Kd.R_below (ur HO483.out) hb)
  have n1_ := Aside0.mk (blk_below (ub BK484.out) hb)
  have n2_ := Aside0.mk (below_step bb hb)
  clear HO483
  clear BK484
  clear HB
  have HO483 := n0_
  have BK484 := n1_
  have HB := n2_
  clear n0_ n1_ n2_
  (try clear hb)
  (try clear hb2)
  (try clear hk)
  (try clear hi)
  refine hK.out _ _ ⟨(blk_cell BK484.out 0).trans rfl, (blk_cell BK484.out 1).trans rfl, (blk_cell BK484.out 2).trans rfl⟩ (fun hHeld => ?_)
  clear hK K
  refine norm_ (a' := ?_) ?_ ?_
  rotate_left
  ·
   show Act.put _ (some 43) _ = _
   simp only [Act.put, l_a, l_b, l_c, i64_w, i32_w]
   rfl
  refine pure_ (i := 16) (N := some 44) (v := ?_) (a' := ?_) #[true, true, true, true, true, true, true, true, true, true, true, true, true, true, true, true, true, false] rfl rfl (any_of HT_.out (by kernel_rfl)) (fun _ _ _ h => h) (Or.inl ⟨by rfl, ?_⟩) ?_ ?_
  rotate_left
  ·
   intro w'
   go_simp
   with_reducible rfl
  rotate_left
  ·
   simp only [Act.put, l_a, l_b, l_c, i64_w, i32_w]
   rfl
  refine pure_ (i := 17) (N := some 45) (v := ?_) (a' := ?_) #[true, true, true, true, true, true, true, true, true, true, true, true, true, true, true, true, true, true] rfl rfl (any_of HT_.out (by kernel_rfl)) (fun _ _ _ h => h) (Or.inl ⟨by rfl, ?_⟩) ?_ ?_
  rotate_left
  ·
   intro w'
   go_simp
   with_reducible rfl
  rotate_left
  ·
   simp only [Act.put, l_a, l_b, l_c, i64_w, i32_w]
   rfl
  refine done_ (done_of HT_.out (by kernel_rfl)) ?_
  try go_wp2
  go_meet
  case rel => exact ⟨rs, ⟨ur HO483.out⟩, ⟨ub BK484.out⟩, ⟨bb⟩⟩
 case rest =>
  obtain ⟨rfl, HO_485002, BK484, HB⟩ := hcut
  go_upto_if 47 with (fail)
  go_cut [] (fun wc => Aside0 (Kd.R k29 29 wc w.heap.size (fun _ => True) (.slice Ao12 t481.length co12) t481) ∧ Aside0 (wc.heap[gb484]? = some (.cells #[.string t479, .string t480, (.slice Ao12 t481.length co12)] 25 (0, 0))) ∧ Aside0 (Below w.heap.size w wc))
  case first =>
   rcases H7.out with c32 | ⟨c32, t490, t491, t492, e33, e35⟩
   ·
    have c32c0 : (!t485.toList.isEmpty) = false := by rw [c32]; rfl
    have c32b0 : (t485.toList == ([] : List UInt8)) = true := beq_iff_eq.mpr c32
    have c32b1 : (t485.toList != ([] : List UInt8)) = false := bne_eq_false_iff_eq.mpr c32
    clear c32
    (first | rw [c32c0] | rw [c32b0] | skip)
    go_wp2
    go_meet
    case rel => exact ⟨⟨ur HO_485002.out⟩, ⟨ub BK484.out⟩, ⟨bb⟩⟩
   ·
    have c32c0 : (!t485.toList.isEmpty) = true := by cases h_ : t485.toList with
      | nil => exact absurd h_ c32
      | cons _ _ => rfl
    have c32b0 : (t485.toList == ([] : List UInt8)) = false := beq_eq_false_iff_ne.mpr c32
    have c32b1 : (t485.toList != ([] : List UInt8)) = true := bne_iff_ne.mpr c32
    clear c32
    (first | rw [c32c0] | rw [c32b0] | skip)
    have A33 := Aside0.mk e33
    have A35 := Aside0.mk e35
    clear e33 e35
    go_wp2_with (first | ((with_reducible refine gate_callee (f := 11) rfl ?_); refine goesL_ (some 50) rfl rfl Tryd.func11 (by kernel_rfl) rfl #[.string t485] rfl ma ?_; (with_reducible refine (impl_ParseKind.calls k t485 t490 t491 t492 true _ ?side1 A33.out).mono ?_); (case side1 => first | exact HG.out | exact MaxOk.below HG.out bb | (repeat (first | exact HG.out | apply MaxOk.drewN | apply MaxOk.drew))); rintro e w37 ⟨v493, rfl, ho0, hb⟩; refine ⟨_, rfl, ?_⟩; have n0_ := Aside0.mk (Kd.R_elder' (ur HO_485002.out) (Kd.R_base ho0) hb); have n1_ := Aside0.mk (Kd.R_lower (Kd.R_new' ho0 (Kd.R_lt (ur HO_485002.out))) (below_size bb)); have n2_ := Aside0.mk (blk_below (ub BK484.out) hb); have n3_ := Aside0.mk (below_step bb hb); clear HO_485002; clear BK484; clear HB; have HO_485002 := n0_; have HO494 := n1_; have BK484 := n2_; have HB := n3_; clear n0_ n1_ n2_ n3_; (try clear hb); (try clear hb2); (try clear hk); (try clear hi); (try clear ho0)) | ((with_reducible refine gate_dst (N := 7) rfl ?_); (try (refine gate_guard (by rfl) ?_; dsimp only)); refine box_event ?hg (N := 7) ?hd (cs := #[.string (⟨#[]⟩ : ByteArray), .string (⟨#[]⟩ : ByteArray), .slice none 0 0]) (t := 25) ?hr ?_; (case hd => rfl); (case hg => rfl); (case hr => first | (go_simp; done) | (go_simp; rfl)); intro gb496 hg w38 hbox hb; have n0_ := Aside0.mk (Kd.R_below (ur HO_485002.out) hb); have n1_ := Aside0.mk (Kd.R_below (ur HO494.out) hb); have n2_ := Aside0.mk (blk_below (ub BK484.out) hb); have n3_ := Aside0.mk (below_step bb hb); have n4_ := Aside0.mk (hbox); have n5_ := Aside0.mk ((by rw [hg]; exact (below_size bb) : w.heap.size ≤ gb496)); have n6_ := Aside0.mk ((by rw [hg]; exact (below_size bb) : w.heap.size ≤ gb496)); have n7_ := Aside0.mk ((by rw [hg]; exact Nat.ne_of_lt (blk_lt (ub BK484.out)) : gb484 ≠ gb496)); have n8_ := Aside0.mk ((by rw [hg]; exact Nat.ne_of_gt (blk_lt (ub BK484.out)) : gb496 ≠ gb484)); clear HO_485002; clear HO494; clear BK484; clear HB; have HO_485002 := n0_; have HO494 := n1_; have BK484 := n2_; have HB := n3_; have BK496 := n4_; have GW496 := n5_; have GE496 := n6_; have NB484_496 := n7_; have NB496_484 := n8_; clear n0_ n1_ n2_ n3_ n4_ n5_ n6_ n7_ n8_; clear hb hbox hg; have hnb39 := NB496_484.out; have hnc39 := NB484_496.out; obtain ⟨hcz40_0, hcz40_1, hcz40_2, hfz40_0, hfz40_1, hfz40_2⟩ := cz3 BK496.out; obtain ⟨Ao41, co41, eo41⟩ := Kd.R_slice HO494.out; subst eo41; obtain ⟨hcz42_0, hcz42_1, hcz42_2, hfz42_0, hfz42_1, hfz42_2⟩ := cz3 BK484.out) | (go_at_call 13; (with_reducible refine (impl_KindSame.calls k t490 t491 _ _ t492 t479 t480 _ _ t481 true _ ?side1 ?side2 ?side3 ?side4 A35.out).mono ?_); (case side1 => refine (Kd.R_reads' (e := 29) (base := w.heap.size) (ok := fun k_ => (True ∧ some k_ ≠ (.slice Ao12 t481.length co12 : Value).ownBlock)) (n := t492.length) (c := co41) ?_).2.2; exact (ur (Kd.R_mono (Kd.R_far (p := ⟨gb496, 2, none⟩) (Kd.R_far (p := ⟨gb496, 1, none⟩) (Kd.R_far (p := ⟨gb496, 0, none⟩) (Kd.R_types HO494.out BK496.out (by decide)) (fun _ hk => hk.2) (.string t490)) (fun _ hk => hk.2) (.string t491)) (fun _ hk => hk.2) (.slice Ao41 t492.length co41)) (fun _ h_ => h_.1)))); (case side2 => exact (Kd.R_reads' HO494.out).2.1); (case side3 => refine (Kd.R_reads' (e := 29) (base := w.heap.size) (ok := fun k_ => (True ∧ some k_ ≠ (.slice Ao41 t492.length co41 : Value).ownBlock)) (n := t481.length) (c := co12) ?_).2.2; exact (ur (Kd.R_mono (Kd.R_far (p := ⟨gb496, 2, none⟩) (Kd.R_far (p := ⟨gb496, 1, none⟩) (Kd.R_far (p := ⟨gb496, 0, none⟩) (Kd.R_types HO_485002.out BK496.out (by decide)) (fun _ hk => hk.2) (.string t490)) (fun _ hk => hk.2) (.string t491)) (fun _ hk => hk.2) (.slice Ao41 t492.length co41)) (fun _ h_ => h_.1)))); (case side4 => exact (Kd.R_reads' HO_485002.out).2.1); rintro e w43 ⟨rfl, hb⟩; have n0_ := Aside0.mk (Kd.R_below (ur (Kd.R_mono (Kd.R_far (p := ⟨gb496, 2, none⟩) (Kd.R_far (p := ⟨gb496, 1, none⟩) (Kd.R_far (p := ⟨gb496, 0, none⟩) (Kd.R_types HO_485002.out BK496.out (by decide)) (fun _ hk => hk.2) (.string t490)) (fun _ hk => hk.2) (.string t491)) (fun _ hk => hk.2) (.slice Ao41 t492.length co41)) (fun _ h_ => h_.1))) hb); have n1_ := Aside0.mk (Kd.R_below (ur (Kd.R_mono (Kd.R_far (p := ⟨gb496, 2, none⟩) (Kd.R_far (p := ⟨gb496, 1, none⟩) (Kd.R_far (p := ⟨gb496, 0, none⟩) (Kd.R_types HO494.out BK496.out (by decide)) (fun _ hk => hk.2) (.string t490)) (fun _ hk => hk.2) (.string t491)) (fun _ hk => hk.2) (.slice Ao41 t492.length co41)) (fun _ h_ => h_.1))) hb); have n2_ := Aside0.mk (blk_below (g := gb484) (o := .cells #[.string t479, .string t480, .slice Ao12 t481.length co12] 25 (0, 0)) (by (with_reducible repeat (first | refine blk_drewN ?_ _ | refine blk_drew ?_ | refine blk_alloc ?_ _)); refine blk_far ?_ NB484_496.out _; (with_reducible repeat (first | refine blk_drewN ?_ _ | refine blk_drew ?_ | refine blk_alloc ?_ _)); refine blk_far ?_ NB484_496.out _; (with_reducible repeat (first | refine blk_drewN ?_ _ | refine blk_drew ?_ | refine blk_alloc ?_ _)); refine blk_far ?_ NB484_496.out _; (with_reducible repeat (first | refine blk_drewN ?_ _ | refine blk_drew ?_ | refine blk_alloc ?_ _)); exact BK484.out) hb); have n3_ := Aside0.mk (blk_below (g := gb496) (o := .cells #[.string t490, .string t491, .slice Ao41 t492.length co41] 25 (0, 0)) (by (with_reducible repeat (first | refine blk_drewN ?_ _ | refine blk_drew ?_ | refine blk_alloc ?_ _)); refine blk_put (cs := #[.string t490, .string t491, .slice none 0 0]) ?_ 2 _ rfl; (with_reducible repeat (first | refine blk_drewN ?_ _ | refine blk_drew ?_ | refine blk_alloc ?_ _)); refine blk_put (cs := #[.string t490, .string (⟨#[]⟩ : ByteArray), .slice none 0 0]) ?_ 1 _ rfl; (with_reducible repeat (first | refine blk_drewN ?_ _ | refine blk_drew ?_ | refine blk_alloc ?_ _)); refine blk_put (cs := #[.string (⟨#[]⟩ : ByteArray), .string (⟨#[]⟩ : ByteArray), .slice none 0 0]) ?_ 0 _ rfl; (with_reducible repeat (first | refine blk_drewN ?_ _ | refine blk_drew ?_ | refine blk_alloc ?_ _)); exact BK496.out) hb); have n4_ := Aside0.mk (below_step bb hb); clear HO_485002; clear HO494; clear BK484; clear BK496; clear HB; have HO_485002 := n0_; have HO494 := n1_; have BK484 := n2_; have BK496 := n3_; have HB := n4_; clear n0_ n1_ n2_ n3_ n4_; (try clear hb); (try clear hb2); (try clear hk); (try clear hi)))
    go_meet
    case rel => exact ⟨⟨by (with_reducible repeat (first | apply Kd.R_alloc | apply Kd.R_drewN | apply Kd.R_drew)); exact Kd.R_mono HO_485002.out (fun _ hk => trivial)⟩, ⟨ub BK484.out⟩, ⟨bb⟩⟩
  case rest =>
   obtain ⟨HO_485002, BK484, HB⟩ := hcut
   go_upto_region 14 with (first | ((with_reducible refine gate_callee (f := 23) rfl ?_); refine goesL_ (some 62) rfl rfl Tryd.func23 (by kernel_rfl) rfl #[.slice A1 l1.length c1] rfl ma ?_; (with_reducible refine (spec_DrawParseKind.calls k _ _ l1 t498 _ ?side1 ?side2 A56.out).mono ?_); (case side1 => repeat (first | exact (Kd.C_below HR1.out HB.out) | (with_reducible refine Kd.C_alloc ?_ _) | (with_reducible refine Kd.C_drewN ?_ _) | (with_reducible refine Kd.C_drew ?_))); (case side2 => exact HC1.out); rintro e w60 ⟨rfl, hb⟩; refine ⟨_, rfl, ?_⟩; have n0_ := Aside0.mk (Kd.R_below (ur HO_485002.out) hb); have n1_ := Aside0.mk (blk_below (ub BK484.out) hb); have n2_ := Aside0.mk (below_step bb hb); clear HO_485002; clear BK484; clear HB; have HO_485002 := n0_; have BK484 := n1_; have HB := n2_; clear n0_ n1_ n2_; (try clear hb); (try clear hb2); (try clear hk); (try clear hi)) | ((with_reducible refine gate_callee (f := 11) rfl ?_); refine goesL_ (some 65) rfl rfl Tryd.func11 (by kernel_rfl) rfl #[.string t498] rfl ma ?_; (with_reducible refine (impl_ParseKind.calls k t498 t499 t500 t501 t504 _ ?side1 A57.out).mono ?_); (case side1 => first | exact HG.out | exact MaxOk.below HG.out bb | (repeat (first | exact HG.out | apply MaxOk.drewN | apply MaxOk.drew))); rintro e w61 ⟨v502, rfl, ho0, hb⟩; refine ⟨_, rfl, ?_⟩; have n0_ := Aside0.mk (Kd.R_elder' (ur HO_485002.out) (Kd.R_base ho0) hb); have n1_ := Aside0.mk (Kd.R_lower (Kd.R_new' ho0 (Kd.R_lt (ur HO_485002.out))) (below_size bb)); have n2_ := Aside0.mk (blk_below (ub BK484.out) hb); have n3_ := Aside0.mk (below_step bb hb); clear HO_485002; clear BK484; clear HB; have HO_485002 := n0_; have HO503 := n1_; have BK484 := n2_; have HB := n3_; clear n0_ n1_ n2_ n3_; (try clear hb); (try clear hb2); (try clear hk); (try clear hi); (try clear ho0)) | ((with_reducible refine gate_dst (N := 10) rfl ?_); (try (refine gate_guard (by rfl) ?_; dsimp only)); refine box_event ?hg (N := 10) ?hd (cs := #[.string (⟨#[]⟩ : ByteArray), .string (⟨#[]⟩ : ByteArray), .slice none 0 0]) (t := 25) ?hr ?_; (case hd => rfl); (case hg => rfl); (case hr => first | (go_simp; done) | (go_simp; rfl)); intro gb505 hg w62 hbox hb; have n0_ := Aside0.mk (Kd.R_below (ur HO_485002.out) hb); have n1_ := Aside0.mk (Kd.R_below (ur HO503.out) hb); have n2_ := Aside0.mk (blk_below (ub BK484.out) hb); have n3_ := Aside0.mk (below_step bb hb); have n4_ := Aside0.mk (hbox); have n5_ := Aside0.mk ((by rw [hg]; exact (below_size bb) : w.heap.size ≤ gb505)); have n6_ := Aside0.mk ((by rw [hg]; exact (below_size bb) : w.heap.size ≤ gb505)); have n7_ := Aside0.mk ((by rw [hg]; exact Nat.ne_of_lt (blk_lt (ub BK484.out)) : gb484 ≠ gb505)); have n8_ := Aside0.mk ((by rw [hg]; exact Nat.ne_of_gt (blk_lt (ub BK484.out)) : gb505 ≠ gb484)); clear HO_485002; clear HO503; clear BK484; clear HB; have HO_485002 := n0_; have HO503 := n1_; have BK484 := n2_; have HB := n3_; have BK505 := n4_; have GW505 := n5_; have GE505 := n6_; have NB484_505 := n7_; have NB505_484 := n8_; clear n0_ n1_ n2_ n3_ n4_ n5_ n6_ n7_ n8_; clear hb hbox hg; have hnb63 := NB505_484.out; have hnc63 := NB484_505.out; obtain ⟨hcz64_0, hcz64_1, hcz64_2, hfz64_0, hfz64_1, hfz64_2⟩ := cz3 BK505.out; obtain ⟨Ao65, co65, eo65⟩ := Kd.R_slice HO503.out; subst eo65) | ((with_reducible refine gate_callee (f := 19) rfl ?_); refine goesL_ (some 70) rfl rfl Tryd.func19 (by kernel_rfl) rfl #[.string t498] rfl ma ?_; (with_reducible refine (spec_ParseKind.calls k t498 t499 t500 t501 t504 _ A58.out).mono ?_); rintro e w66 ⟨v509, rfl, ho0, hb⟩; refine ⟨_, rfl, ?_⟩; have n0_ := Aside0.mk (Kd.R_elder' (ur (Kd.R_mono (Kd.R_far (p := ⟨gb505, 2, none⟩) (Kd.R_far (p := ⟨gb505, 1, none⟩) (Kd.R_far (p := ⟨gb505, 0, none⟩) (Kd.R_types HO_485002.out BK505.out (by decide)) (fun _ hk => hk.2) (.string t499)) (fun _ hk => hk.2) (.string t500)) (fun _ hk => hk.2) (.slice Ao65 t501.length co65)) (fun _ h_ => h_.1))) (Kd.R_base ho0) hb); have n1_ := Aside0.mk (Kd.R_elder' (ur (Kd.R_mono (Kd.R_far (p := ⟨gb505, 2, none⟩) (Kd.R_far (p := ⟨gb505, 1, none⟩) (Kd.R_far (p := ⟨gb505, 0, none⟩) (Kd.R_types HO503.out BK505.out (by decide)) (fun _ hk => hk.2) (.string t499)) (fun _ hk => hk.2) (.string t500)) (fun _ hk => hk.2) (.slice Ao65 t501.length co65)) (fun _ h_ => h_.1))) (Kd.R_base ho0) hb); have n2_ := Aside0.mk (Kd.R_lower (Kd.R_new' (Kd.R_new' ho0 (Kd.R_lt (ur (Kd.R_mono (Kd.R_far (p := ⟨gb505, 2, none⟩) (Kd.R_far (p := ⟨gb505, 1, none⟩) (Kd.R_far (p := ⟨gb505, 0, none⟩) (Kd.R_types HO_485002.out BK505.out (by decide)) (fun _ hk => hk.2) (.string t499)) (fun _ hk => hk.2) (.string t500)) (fun _ hk => hk.2) (.slice Ao65 t501.length co65)) (fun _ h_ => h_.1))))) (Kd.R_lt (ur (Kd.R_mono (Kd.R_far (p := ⟨gb505, 2, none⟩) (Kd.R_far (p := ⟨gb505, 1, none⟩) (Kd.R_far (p := ⟨gb505, 0, none⟩) (Kd.R_types HO503.out BK505.out (by decide)) (fun _ hk => hk.2) (.string t499)) (fun _ hk => hk.2) (.string t500)) (fun _ hk => hk.2) (.slice Ao65 t501.length co65)) (fun _ h_ => h_.1))))) (below_size bb)); have n3_ := Aside0.mk (blk_below (g := gb484) (o := .cells #[.string t479, .string t480, .slice Ao12 t481.length co12] 25 (0, 0)) (by (with_reducible repeat (first | refine blk_drewN ?_ _ | refine blk_drew ?_ | refine blk_alloc ?_ _)); refine blk_far ?_ NB484_505.out _; (with_reducible repeat (first | refine blk_drewN ?_ _ | refine blk_drew ?_ | refine blk_alloc ?_ _)); refine blk_far ?_ NB484_505.out _; (with_reducible repeat (first | refine blk_drewN ?_ _ | refine blk_drew ?_ | refine blk_alloc ?_ _)); refine blk_far ?_ NB484_505.out _; (with_reducible repeat (first | refine blk_drewN ?_ _ | refine blk_drew ?_ | refine blk_alloc ?_ _)); exact BK484.out) hb); have n4_ := Aside0.mk (blk_below (g := gb505) (o := .cells #[.string t499, .string t500, .slice Ao65 t501.length co65] 25 (0, 0)) (by (with_reducible repeat (first | refine blk_drewN ?_ _ | refine blk_drew ?_ | refine blk_alloc ?_ _)); refine blk_put (cs := #[.string t499, .string t500, .slice none 0 0]) ?_ 2 _ rfl; (with_reducible repeat (first | refine blk_drewN ?_ _ | refine blk_drew ?_ | refine blk_alloc ?_ _)); refine blk_put (cs := #[.string t499, .string (⟨#[]⟩ : ByteArray), .slice none 0 0]) ?_ 1 _ rfl; (with_reducible repeat (first | refine blk_drewN ?_ _ | refine blk_drew ?_ | refine blk_alloc ?_ _)); refine blk_put (cs := #[.string (⟨#[]⟩ : ByteArray), .string (⟨#[]⟩ : ByteArray), .slice none 0 0]) ?_ 0 _ rfl; (with_reducible repeat (first | refine blk_drewN ?_ _ | refine blk_drew ?_ | refine blk_alloc ?_ _)); exact BK505.out) hb); have n5_ := Aside0.mk (below_step bb hb); clear HO_485002; clear HO503; clear BK484; clear BK505; clear HB; have HO_485002 := n0_; have HO503 := n1_; have HO510 := n2_; have BK484 := n3_; have BK505 := n4_; have HB := n5_; clear n0_ n1_ n2_ n3_ n4_ n5_; (try clear hb); (try clear hb2); (try clear hk); (try clear hi); (try clear ho0)) | ((with_reducible refine gate_dst (N := 12) rfl ?_); (try (refine gate_guard (by rfl) ?_; dsimp only)); refine box_event ?hg (N := 12) ?hd (cs := #[.string (⟨#[]⟩ : ByteArray), .string (⟨#[]⟩ : ByteArray), .slice none 0 0]) (t := 25) ?hr ?_; (case hd => rfl); (case hg => rfl); (case hr => first | (go_simp; done) | (go_simp; rfl)); intro gb512 hg w67 hbox hb; have n0_ := Aside0.mk (Kd.R_below (ur HO_485002.out) hb); have n1_ := Aside0.mk (Kd.R_below (ur HO503.out) hb); have n2_ := Aside0.mk (Kd.R_below (ur HO510.out) hb); have n3_ := Aside0.mk (blk_below (ub BK484.out) hb); have n4_ := Aside0.mk (blk_below (ub BK505.out) hb); have n5_ := Aside0.mk (below_step bb hb); have n6_ := Aside0.mk (hbox); have n7_ := Aside0.mk ((by rw [hg]; exact (below_size bb) : w.heap.size ≤ gb512)); have n8_ := Aside0.mk ((by rw [hg]; exact (below_size bb) : w.heap.size ≤ gb512)); have n9_ := Aside0.mk ((by rw [hg]; exact Nat.ne_of_lt (blk_lt (ub BK484.out)) : gb484 ≠ gb512)); have n10_ := Aside0.mk ((by rw [hg]; exact Nat.ne_of_gt (blk_lt (ub BK484.out)) : gb512 ≠ gb484)); have n11_ := Aside0.mk ((by rw [hg]; exact Nat.ne_of_lt (blk_lt (ub BK505.out)) : gb505 ≠ gb512)); have n12_ := Aside0.mk ((by rw [hg]; exact Nat.ne_of_gt (blk_lt (ub BK505.out)) : gb512 ≠ gb505)); clear HO_485002; clear HO503; clear HO510; clear BK484; clear BK505; clear HB; have HO_485002 := n0_; have HO503 := n1_; have HO510 := n2_; have BK484 := n3_; have BK505 := n4_; have HB := n5_; have BK512 := n6_; have GW512 := n7_; have GE512 := n8_; have NB484_512 := n9_; have NB512_484 := n10_; have NB505_512 := n11_; have NB512_505 := n12_; clear n0_ n1_ n2_ n3_ n4_ n5_ n6_ n7_ n8_ n9_ n10_ n11_ n12_; clear hb hbox hg; have hnb68 := NB512_484.out; have hnc68 := NB484_512.out; have hnb69 := NB512_505.out; have hnc69 := NB505_512.out; obtain ⟨hcz70_0, hcz70_1, hcz70_2, hfz70_0, hfz70_1, hfz70_2⟩ := cz3 BK512.out; obtain ⟨Ao71, co71, eo71⟩ := Kd.R_slice HO510.out; subst eo71))
   (try simp only [Act.put, l_a, l_b, l_c])
   go_cut [85] (fun v85 wc => v85 = .bool (!t504) ∧ Aside0 (Kd.R k29 29 wc w.heap.size (fun k_ => some k_ ≠ ((.slice Ao65 t501.length co65) : Value).ownBlock ∧ some k_ ≠ ((.slice Ao71 t501.length co71) : Value).ownBlock) (.slice Ao12 t481.length co12) t481) ∧ Aside0 (Kd.R k29 29 wc w.heap.size (fun k_ => some k_ ≠ ((.slice Ao12 t481.length co12) : Value).ownBlock ∧ some k_ ≠ ((.slice Ao71 t501.length co71) : Value).ownBlock) (.slice Ao65 t501.length co65) t501) ∧ Aside0 (Kd.R k29 29 wc w.heap.size (fun k_ => some k_ ≠ ((.slice Ao12 t481.length co12) : Value).ownBlock ∧ some k_ ≠ ((.slice Ao65 t501.length co65) : Value).ownBlock) (.slice Ao71 t501.length co71) t501) ∧ Aside0 (wc.heap[gb484]? = some (.cells #[.string t479, .string t480, (.slice Ao12 t481.length co12)] 25 (0, 0))) ∧ Aside0 (wc.heap[gb505]? = some (.cells #[.string t499, .string t500, (.slice Ao65 t501.length co65)] 25 (0, 0))) ∧ Aside0 (wc.heap[gb512]? = some (.cells #[.string t499, .string t500, (.slice Ao71 t501.length co71)] 25 (0, 0))) ∧ Aside0 (Below w.heap.size w wc))
   case first =>
    have c74b0 : (t504 != t504) = false := by simp
    have c74b2 : (t504 == t504) = true := by simp
    have hnb81 := NB505_484.out
    have hnc81 := NB484_505.out
    have hnb82 := NB505_512.out
    have hnc82 := NB512_505.out
    obtain ⟨hcz83_0, hcz83_1, hcz83_2, hfz83_0, hfz83_1, hfz83_2⟩ := cz3 BK505.out
    have hnb84 := NB512_484.out
    have hnc84 := NB484_512.out
    obtain ⟨hcz85_0, hcz85_1, hcz85_2, hfz85_0, hfz85_1, hfz85_2⟩ := cz3 BK512.out
    go_wp2_with (first | ((with_reducible refine gate_callee (f := 13) rfl ?_); refine goesL_ (some 75) rfl rfl Tryd.func13 (by kernel_rfl) rfl #[.agg #[.string t499, .string t500, .slice Ao65 t501.length co65], .agg #[.string t499, .string t500, .slice Ao71 t501.length co71]] rfl ma ?_; (with_reducible refine (impl_KindSame.calls k t499 t500 _ _ t501 t499 t500 _ _ t501 true _ ?side1 ?side2 ?side3 ?side4 A72.out).mono ?_); (case side1 => refine (Kd.R_reads' (e := 29) (base := w.heap.size) (ok := fun k_ => ((True ∧ some k_ ≠ (.slice Ao12 t481.length co12 : Value).ownBlock) ∧ some k_ ≠ (.slice Ao71 t501.length co71 : Value).ownBlock)) (n := t501.length) (c := co65) ?_).2.2; exact (ur (Kd.R_mono (Kd.R_far (p := ⟨gb512, 2, none⟩) (Kd.R_far (p := ⟨gb512, 1, none⟩) (Kd.R_far (p := ⟨gb512, 0, none⟩) (Kd.R_types HO503.out BK512.out (by decide)) (fun _ hk => hk.2) (.string t499)) (fun _ hk => hk.2) (.string t500)) (fun _ hk => hk.2) (.slice Ao71 t501.length co71)) (fun _ h_ => h_.1)))); (case side2 => exact (Kd.R_reads' HO503.out).2.1); (case side3 => refine (Kd.R_reads' (e := 29) (base := w.heap.size) (ok := fun k_ => ((True ∧ some k_ ≠ (.slice Ao12 t481.length co12 : Value).ownBlock) ∧ some k_ ≠ (.slice Ao65 t501.length co65 : Value).ownBlock)) (n := t501.length) (c := co71) ?_).2.2; exact (ur (Kd.R_mono (Kd.R_far (p := ⟨gb512, 2, none⟩) (Kd.R_far (p := ⟨gb512, 1, none⟩) (Kd.R_far (p := ⟨gb512, 0, none⟩) (Kd.R_types HO510.out BK512.out (by decide)) (fun _ hk => hk.2) (.string t499)) (fun _ hk => hk.2) (.string t500)) (fun _ hk => hk.2) (.slice Ao71 t501.length co71)) (fun _ h_ => h_.1)))); (case side4 => exact (Kd.R_reads' HO510.out).2.1); rintro e w86 ⟨rfl, hb⟩; refine ⟨_, rfl, ?_⟩; have n0_ := Aside0.mk (Kd.R_below (ur (Kd.R_mono (Kd.R_far (p := ⟨gb512, 2, none⟩) (Kd.R_far (p := ⟨gb512, 1, none⟩) (Kd.R_far (p := ⟨gb512, 0, none⟩) (Kd.R_types HO_485002.out BK512.out (by decide)) (fun _ hk => hk.2) (.string t499)) (fun _ hk => hk.2) (.string t500)) (fun _ hk => hk.2) (.slice Ao71 t501.length co71)) (fun _ h_ => h_.1))) hb); have n1_ := Aside0.mk (Kd.R_below (ur (Kd.R_mono (Kd.R_far (p := ⟨gb512, 2, none⟩) (Kd.R_far (p := ⟨gb512, 1, none⟩) (Kd.R_far (p := ⟨gb512, 0, none⟩) (Kd.R_types HO503.out BK512.out (by decide)) (fun _ hk => hk.2) (.string t499)) (fun _ hk => hk.2) (.string t500)) (fun _ hk => hk.2) (.slice Ao71 t501.length co71)) (fun _ h_ => h_.1))) hb); have n2_ := Aside0.mk (Kd.R_below (ur (Kd.R_mono (Kd.R_far (p := ⟨gb512, 2, none⟩) (Kd.R_far (p := ⟨gb512, 1, none⟩) (Kd.R_far (p := ⟨gb512, 0, none⟩) (Kd.R_types HO510.out BK512.out (by decide)) (fun _ hk => hk.2) (.string t499)) (fun _ hk => hk.2) (.string t500)) (fun _ hk => hk.2) (.slice Ao71 t501.length co71)) (fun _ h_ => h_.1))) hb); have n3_ := Aside0.mk (blk_below (g := gb484) (o := .cells #[.string t479, .string t480, .slice Ao12 t481.length co12] 25 (0, 0)) (by (with_reducible repeat (first | refine blk_drewN ?_ _ | refine blk_drew ?_ | refine blk_alloc ?_ _)); refine blk_far ?_ NB484_512.out _; (with_reducible repeat (first | refine blk_drewN ?_ _ | refine blk_drew ?_ | refine blk_alloc ?_ _)); refine blk_far ?_ NB484_512.out _; (with_reducible repeat (first | refine blk_drewN ?_ _ | refine blk_drew ?_ | refine blk_alloc ?_ _)); refine blk_far ?_ NB484_512.out _; (with_reducible repeat (first | refine blk_drewN ?_ _ | refine blk_drew ?_ | refine blk_alloc ?_ _)); exact BK484.out) hb); have n4_ := Aside0.mk (blk_below (g := gb505) (o := .cells #[.string t499, .string t500, .slice Ao65 t501.length co65] 25 (0, 0)) (by (with_reducible repeat (first | refine blk_drewN ?_ _ | refine blk_drew ?_ | refine blk_alloc ?_ _)); refine blk_far ?_ NB505_512.out _; (with_reducible repeat (first | refine blk_drewN ?_ _ | refine blk_drew ?_ | refine blk_alloc ?_ _)); refine blk_far ?_ NB505_512.out _; (with_reducible repeat (first | refine blk_drewN ?_ _ | refine blk_drew ?_ | refine blk_alloc ?_ _)); refine blk_far ?_ NB505_512.out _; (with_reducible repeat (first | refine blk_drewN ?_ _ | refine blk_drew ?_ | refine blk_alloc ?_ _)); exact BK505.out) hb); have n5_ := Aside0.mk (blk_below (g := gb512) (o := .cells #[.string t499, .string t500, .slice Ao71 t501.length co71] 25 (0, 0)) (by (with_reducible repeat (first | refine blk_drewN ?_ _ | refine blk_drew ?_ | refine blk_alloc ?_ _)); refine blk_put (cs := #[.string t499, .string t500, .slice none 0 0]) ?_ 2 _ rfl; (with_reducible repeat (first | refine blk_drewN ?_ _ | refine blk_drew ?_ | refine blk_alloc ?_ _)); refine blk_put (cs := #[.string t499, .string (⟨#[]⟩ : ByteArray), .slice none 0 0]) ?_ 1 _ rfl; (with_reducible repeat (first | refine blk_drewN ?_ _ | refine blk_drew ?_ | refine blk_alloc ?_ _)); refine blk_put (cs := #[.string (⟨#[]⟩ : ByteArray), .string (⟨#[]⟩ : ByteArray), .slice none 0 0]) ?_ 0 _ rfl; (with_reducible repeat (first | refine blk_drewN ?_ _ | refine blk_drew ?_ | refine blk_alloc ?_ _)); exact BK512.out) hb); have n6_ := Aside0.mk (below_step bb hb); clear HO_485002; clear HO503; clear HO510; clear BK484; clear BK505; clear BK512; clear HB; have HO_485002 := n0_; have HO503 := n1_; have HO510 := n2_; have BK484 := n3_; have BK505 := n4_; have BK512 := n5_; have HB := n6_; clear n0_ n1_ n2_ n3_ n4_ n5_ n6_; (try clear hb); (try clear hb2); (try clear hk); (try clear hi)))
    go_meet
    case rel => exact ⟨rs, ⟨by (with_reducible repeat (first | apply Kd.R_alloc | apply Kd.R_drewN | apply Kd.R_drew)); exact Kd.R_mono HO_485002.out (fun _ hk => ⟨hk.1.2, hk.2⟩)⟩, ⟨by (with_reducible repeat (first | apply Kd.R_alloc | apply Kd.R_drewN | apply Kd.R_drew)); exact Kd.R_mono HO503.out (fun _ hk => ⟨hk.1.2, hk.2⟩)⟩, ⟨by (with_reducible repeat (first | apply Kd.R_alloc | apply Kd.R_drewN | apply Kd.R_drew)); exact Kd.R_mono HO510.out (fun _ hk => ⟨hk.1.2, hk.2⟩)⟩, ⟨ub BK484.out⟩, ⟨ub BK505.out⟩, ⟨ub BK512.out⟩, ⟨bb⟩⟩
   case rest =>
    obtain ⟨rfl, HO_485002, HO_506002, HO_513002, BK484, BK505, BK512, HB⟩ := hcut
    rcases H8.out with h8 | ⟨h8, t515, e108, e109, e110⟩
    ·
     subst h8
     have A94 := A72
     have hnb96 := NB505_484.out
     have hnc96 := NB484_505.out
     have hnb97 := NB505_512.out
     have hnc97 := NB512_505.out
     obtain ⟨hcz98_0, hcz98_1, hcz98_2, hfz98_0, hfz98_1, hfz98_2⟩ := cz3 BK505.out
     have hnb99 := NB512_484.out
     have hnc99 := NB484_512.out
     obtain ⟨hcz100_0, hcz100_1, hcz100_2, hfz100_0, hfz100_1, hfz100_2⟩ := cz3 BK512.out
     go_wp2_with (first | ((with_reducible refine gate_callee (f := 13) rfl ?_); refine goesL_ (some 88) rfl rfl Tryd.func13 (by kernel_rfl) rfl #[.agg #[.string t499, .string t500, .slice Ao65 t501.length co65], .agg #[.string t499, .string t500, .slice Ao71 t501.length co71]] rfl ma ?_; (with_reducible refine (impl_KindSame.calls k t499 t500 _ _ t501 t499 t500 _ _ t501 true _ ?side1 ?side2 ?side3 ?side4 A94.out).mono ?_); (case side1 => repeat (first | exact (Kd.R_reads' HO_506002.out).2.2 | (with_reducible refine Kd.C_alloc ?_ _) | (with_reducible refine Kd.C_drewN ?_ _) | (with_reducible refine Kd.C_drew ?_))); (case side2 => exact (Kd.R_reads' HO_506002.out).2.1); (case side3 => repeat (first | exact (Kd.R_reads' HO_513002.out).2.2 | (with_reducible refine Kd.C_alloc ?_ _) | (with_reducible refine Kd.C_drewN ?_ _) | (with_reducible refine Kd.C_drew ?_))); (case side4 => exact (Kd.R_reads' HO_513002.out).2.1); rintro e w101 ⟨rfl, hb⟩; refine ⟨_, rfl, ?_⟩; have n0_ := Aside0.mk (Kd.R_below (ur HO_485002.out) hb); have n1_ := Aside0.mk (Kd.R_below (ur HO_506002.out) hb); have n2_ := Aside0.mk (Kd.R_below (ur HO_513002.out) hb); have n3_ := Aside0.mk (blk_below (ub BK484.out) hb); have n4_ := Aside0.mk (blk_below (ub BK505.out) hb); have n5_ := Aside0.mk (blk_below (ub BK512.out) hb); have n6_ := Aside0.mk (below_step bb hb); clear HO_485002; clear HO_506002; clear HO_513002; clear BK484; clear BK505; clear BK512; clear HB; have HO_485002 := n0_; have HO_506002 := n1_; have HO_513002 := n2_; have BK484 := n3_; have BK505 := n4_; have BK512 := n5_; have HB := n6_; clear n0_ n1_ n2_ n3_ n4_ n5_ n6_; (try clear hb); (try clear hb2); (try clear hk); (try clear hi)))
     go_ret
     exact ⟨er, bb⟩
    ·
     subst h8
     have A108 := Aside0.mk e108
     have A109 := Aside0.mk e109
     have A110 := Aside0.mk e110
     have A113 := A72
     clear e108 e109 e110
     have hnb114 := NB505_484.out
     have hnc114 := NB484_505.out
     have hnb115 := NB505_512.out
     have hnc115 := NB512_505.out
     obtain ⟨hcz116_0, hcz116_1, hcz116_2, hfz116_0, hfz116_1, hfz116_2⟩ := cz3 BK505.out
     go_wp2_with (first | ((with_reducible refine gate_callee (f := 12) rfl ?_); refine goesL_ (some 96) rfl rfl Tryd.func12 (by kernel_rfl) rfl #[.agg #[.string t499, .string t500, .slice Ao65 t501.length co65]] rfl ma ?_; (with_reducible refine (impl_FormatKind.calls k t499 t500 _ _ t501 t515 _ ?side1 ?side2 A108.out).mono ?_); (case side1 => repeat (first | exact (Kd.R_reads' HO_506002.out).2.2 | (with_reducible refine Kd.C_alloc ?_ _) | (with_reducible refine Kd.C_drewN ?_ _) | (with_reducible refine Kd.C_drew ?_))); (case side2 => exact (Kd.R_reads' HO_506002.out).2.1); rintro e w117 ⟨rfl, hb⟩; refine ⟨_, rfl, ?_⟩; have n0_ := Aside0.mk (Kd.R_below (ur HO_485002.out) hb); have n1_ := Aside0.mk (Kd.R_below (ur HO_506002.out) hb); have n2_ := Aside0.mk (Kd.R_below (ur HO_513002.out) hb); have n3_ := Aside0.mk (blk_below (ub BK484.out) hb); have n4_ := Aside0.mk (blk_below (ub BK505.out) hb); have n5_ := Aside0.mk (blk_below (ub BK512.out) hb); have n6_ := Aside0.mk (below_step bb hb); clear HO_485002; clear HO_506002; clear HO_513002; clear BK484; clear BK505; clear BK512; clear HB; have HO_485002 := n0_; have HO_506002 := n1_; have HO_513002 := n2_; have BK484 := n3_; have BK505 := n4_; have BK512 := n5_; have HB := n6_; clear n0_ n1_ n2_ n3_ n4_ n5_ n6_; (try clear hb); (try clear hb2); (try clear hk); (try clear hi)) | ((with_reducible refine gate_callee (f := 11) rfl ?_); refine goesL_ (some 97) rfl rfl Tryd.func11 (by kernel_rfl) rfl #[.string t515] rfl ma ?_; (with_reducible refine (impl_ParseKind.calls k t515 t499 t500 t501 true _ ?side1 A109.out).mono ?_); (case side1 => first | exact HG.out | exact MaxOk.below HG.out bb | (repeat (first | exact HG.out | apply MaxOk.drewN | apply MaxOk.drew))); rintro e w118 ⟨v519, rfl, ho0, hb⟩; refine ⟨_, rfl, ?_⟩; have n0_ := Aside0.mk (Kd.R_elder' (ur HO_485002.out) (Kd.R_base ho0) hb); have n1_ := Aside0.mk (Kd.R_elder' (ur HO_506002.out) (Kd.R_base ho0) hb); have n2_ := Aside0.mk (Kd.R_elder' (ur HO_513002.out) (Kd.R_base ho0) hb); have n3_ := Aside0.mk (Kd.R_lower (Kd.R_new' (Kd.R_new' (Kd.R_new' ho0 (Kd.R_lt (ur HO_485002.out))) (Kd.R_lt (ur HO_506002.out))) (Kd.R_lt (ur HO_513002.out))) (below_size bb)); have n4_ := Aside0.mk (blk_below (ub BK484.out) hb); have n5_ := Aside0.mk (blk_below (ub BK505.out) hb); have n6_ := Aside0.mk (blk_below (ub BK512.out) hb); have n7_ := Aside0.mk (below_step bb hb); clear HO_485002; clear HO_506002; clear HO_513002; clear BK484; clear BK505; clear BK512; clear HB; have HO_485002 := n0_; have HO_506002 := n1_; have HO_513002 := n2_; have HO520 := n3_; have BK484 := n4_; have BK505 := n5_; have BK512 := n6_; have HB := n7_; clear n0_ n1_ n2_ n3_ n4_ n5_ n6_ n7_; (try clear hb); (try clear hb2); (try clear hk); (try clear hi); (try clear ho0)) | ((with_reducible refine gate_dst (N := 14) rfl ?_); (try (refine gate_guard (by rfl) ?_; dsimp only)); refine box_event ?hg (N := 14) ?hd (cs := #[.string (⟨#[]⟩ : ByteArray), .string (⟨#[]⟩ : ByteArray), .slice none 0 0]) (t := 25) ?hr ?_; (case hd => rfl); (case hg => rfl); (case hr => first | (go_simp; done) | (go_simp; rfl)); intro gb522 hg w119 hbox hb; have n0_ := Aside0.mk (Kd.R_below (ur HO_485002.out) hb); have n1_ := Aside0.mk (Kd.R_below (ur HO_506002.out) hb); have n2_ := Aside0.mk (Kd.R_below (ur HO_513002.out) hb); have n3_ := Aside0.mk (Kd.R_below (ur HO520.out) hb); have n4_ := Aside0.mk (blk_below (ub BK484.out) hb); have n5_ := Aside0.mk (blk_below (ub BK505.out) hb); have n6_ := Aside0.mk (blk_below (ub BK512.out) hb); have n7_ := Aside0.mk (below_step bb hb); have n8_ := Aside0.mk (hbox); have n9_ := Aside0.mk ((by rw [hg]; exact (below_size bb) : w.heap.size ≤ gb522)); have n10_ := Aside0.mk ((by rw [hg]; exact (below_size bb) : w.heap.size ≤ gb522)); have n11_ := Aside0.mk ((by rw [hg]; exact Nat.ne_of_lt (blk_lt (ub BK484.out)) : gb484 ≠ gb522)); have n12_ := Aside0.mk ((by rw [hg]; exact Nat.ne_of_gt (blk_lt (ub BK484.out)) : gb522 ≠ gb484)); have n13_ := Aside0.mk ((by rw [hg]; exact Nat.ne_of_lt (blk_lt (ub BK505.out)) : gb505 ≠ gb522)); have n14_ := Aside0.mk ((by rw [hg]; exact Nat.ne_of_gt (blk_lt (ub BK505.out)) : gb522 ≠ gb505)); have n15_ := Aside0.mk ((by rw [hg]; exact Nat.ne_of_lt (blk_lt (ub BK512.out)) : gb512 ≠ gb522)); have n16_ := Aside0.mk ((by rw [hg]; exact Nat.ne_of_gt (blk_lt (ub BK512.out)) : gb522 ≠ gb512)); clear HO_485002; clear HO_506002; clear HO_513002; clear HO520; clear BK484; clear BK505; clear BK512; clear HB; have HO_485002 := n0_; have HO_506002 := n1_; have HO_513002 := n2_; have HO520 := n3_; have BK484 := n4_; have BK505 := n5_; have BK512 := n6_; have HB := n7_; have BK522 := n8_; have GW522 := n9_; have GE522 := n10_; have NB484_522 := n11_; have NB522_484 := n12_; have NB505_522 := n13_; have NB522_505 := n14_; have NB512_522 := n15_; have NB522_512 := n16_; clear n0_ n1_ n2_ n3_ n4_ n5_ n6_ n7_ n8_ n9_ n10_ n11_ n12_ n13_ n14_ n15_ n16_; clear hb hbox hg; have hnb120 := NB522_484.out; have hnc120 := NB484_522.out; have hnb121 := NB522_505.out; have hnc121 := NB505_522.out; have hnb122 := NB522_512.out; have hnc122 := NB512_522.out; obtain ⟨hcz123_0, hcz123_1, hcz123_2, hfz123_0, hfz123_1, hfz123_2⟩ := cz3 BK522.out; obtain ⟨Ao124, co124, eo124⟩ := Kd.R_slice HO520.out; subst eo124; obtain ⟨hcz125_0, hcz125_1, hcz125_2, hfz125_0, hfz125_1, hfz125_2⟩ := cz3 BK505.out) | ((with_reducible refine gate_callee (f := 9) rfl ?_); refine goesL_ (some 101) rfl rfl Tryd.func9 (by kernel_rfl) rfl #[.agg #[.string t499, .string t500, .slice Ao65 t501.length co65]] rfl ma ?_; (with_reducible refine (impl_KindValid.calls k t499 t500 _ _ t501 true _ ?side1 ?side2 A110.out).mono ?_); (case side1 => refine (Kd.R_reads' (e := 29) (base := w.heap.size) (ok := fun k_ => ((some k_ ≠ (.slice Ao12 t481.length co12 : Value).ownBlock ∧ some k_ ≠ (.slice Ao71 t501.length co71 : Value).ownBlock) ∧ some k_ ≠ (.slice Ao124 t501.length co124 : Value).ownBlock)) (n := t501.length) (c := co65) ?_).2.2; exact (ur (Kd.R_mono (Kd.R_far (p := ⟨gb522, 2, none⟩) (Kd.R_far (p := ⟨gb522, 1, none⟩) (Kd.R_far (p := ⟨gb522, 0, none⟩) (Kd.R_types HO_506002.out BK522.out (by decide)) (fun _ hk => hk.2) (.string t499)) (fun _ hk => hk.2) (.string t500)) (fun _ hk => hk.2) (.slice Ao124 t501.length co124)) (fun _ h_ => h_.1)))); (case side2 => exact (Kd.R_reads' HO_506002.out).2.1); rintro e w126 ⟨rfl, hb⟩; refine ⟨_, rfl, ?_⟩; have n0_ := Aside0.mk (Kd.R_below (ur (Kd.R_mono (Kd.R_far (p := ⟨gb522, 2, none⟩) (Kd.R_far (p := ⟨gb522, 1, none⟩) (Kd.R_far (p := ⟨gb522, 0, none⟩) (Kd.R_types HO_485002.out BK522.out (by decide)) (fun _ hk => hk.2) (.string t499)) (fun _ hk => hk.2) (.string t500)) (fun _ hk => hk.2) (.slice Ao124 t501.length co124)) (fun _ h_ => h_.1))) hb); have n1_ := Aside0.mk (Kd.R_below (ur (Kd.R_mono (Kd.R_far (p := ⟨gb522, 2, none⟩) (Kd.R_far (p := ⟨gb522, 1, none⟩) (Kd.R_far (p := ⟨gb522, 0, none⟩) (Kd.R_types HO_506002.out BK522.out (by decide)) (fun _ hk => hk.2) (.string t499)) (fun _ hk => hk.2) (.string t500)) (fun _ hk => hk.2) (.slice Ao124 t501.length co124)) (fun _ h_ => h_.1))) hb); have n2_ := Aside0.mk (Kd.R_below (ur (Kd.R_mono (Kd.R_far (p := ⟨gb522, 2, none⟩) (Kd.R_far (p := ⟨gb522, 1, none⟩) (Kd.R_far (p := ⟨gb522, 0, none⟩) (Kd.R_types HO_513002.out BK522.out (by decide)) (fun _ hk => hk.2) (.string t499)) (fun _ hk => hk.2) (.string t500)) (fun _ hk => hk.2) (.slice Ao124 t501.length co124)) (fun _ h_ => h_.1))) hb); have n3_ := Aside0.mk (Kd.R_below (ur (Kd.R_mono (Kd.R_far (p := ⟨gb522, 2, none⟩) (Kd.R_far (p := ⟨gb522, 1, none⟩) (Kd.R_far (p := ⟨gb522, 0, none⟩) (Kd.R_types HO520.out BK522.out (by decide)) (fun _ hk => hk.2) (.string t499)) (fun _ hk => hk.2) (.string t500)) (fun _ hk => hk.2) (.slice Ao124 t501.length co124)) (fun _ h_ => h_.1))) hb); have n4_ := Aside0.mk (blk_below (g := gb484) (o := .cells #[.string t479, .string t480, .slice Ao12 t481.length co12] 25 (0, 0)) (by (with_reducible repeat (first | refine blk_drewN ?_ _ | refine blk_drew ?_ | refine blk_alloc ?_ _)); refine blk_far ?_ NB484_522.out _; (with_reducible repeat (first | refine blk_drewN ?_ _ | refine blk_drew ?_ | refine blk_alloc ?_ _)); refine blk_far ?_ NB484_522.out _; (with_reducible repeat (first | refine blk_drewN ?_ _ | refine blk_drew ?_ | refine blk_alloc ?_ _)); refine blk_far ?_ NB484_522.out _; (with_reducible repeat (first | refine blk_drewN ?_ _ | refine blk_drew ?_ | refine blk_alloc ?_ _)); exact BK484.out) hb); have n5_ := Aside0.mk (blk_below (g := gb505) (o := .cells #[.string t499, .string t500, .slice Ao65 t501.length co65] 25 (0, 0)) (by (with_reducible repeat (first | refine blk_drewN ?_ _ | refine blk_drew ?_ | refine blk_alloc ?_ _)); refine blk_far ?_ NB505_522.out _; (with_reducible repeat (first | refine blk_drewN ?_ _ | refine blk_drew ?_ | refine blk_alloc ?_ _)); refine blk_far ?_ NB505_522.out _; (with_reducible repeat (first | refine blk_drewN ?_ _ | refine blk_drew ?_ | refine blk_alloc ?_ _)); refine blk_far ?_ NB505_522.out _; (with_reducible repeat (first | refine blk_drewN ?_ _ | refine blk_drew ?_ | refine blk_alloc ?_ _)); exact BK505.out) hb); have n6_ := Aside0.mk (blk_below (g := gb512) (o := .cells #[.string t499, .string t500, .slice Ao71 t501.length co71] 25 (0, 0)) (by (with_reducible repeat (first | refine blk_drewN ?_ _ | refine blk_drew ?_ | refine blk_alloc ?_ _)); refine blk_far ?_ NB512_522.out _; (with_reducible repeat (first | refine blk_drewN ?_ _ | refine blk_drew ?_ | refine blk_alloc ?_ _)); refine blk_far ?_ NB512_522.out _; (with_reducible repeat (first | refine blk_drewN ?_ _ | refine blk_drew ?_ | refine blk_alloc ?_ _)); refine blk_far ?_ NB512_522.out _; (with_reducible repeat (first | refine blk_drewN ?_ _ | refine blk_drew ?_ | refine blk_alloc ?_ _)); exact BK512.out) hb); have n7_ := Aside0.mk (blk_below (g := gb522) (o := .cells #[.string t499, .string t500, .slice Ao124 t501.length co124] 25 (0, 0)) (by (with_reducible repeat (first | refine blk_drewN ?_ _ | refine blk_drew ?_ | refine blk_alloc ?_ _)); refine blk_put (cs := #[.string t499, .string t500, .slice none 0 0]) ?_ 2 _ rfl; (with_reducible repeat (first | refine blk_drewN ?_ _ | refine blk_drew ?_ | refine blk_alloc ?_ _)); refine blk_put (cs := #[.string t499, .string (⟨#[]⟩ : ByteArray), .slice none 0 0]) ?_ 1 _ rfl; (with_reducible repeat (first | refine blk_drewN ?_ _ | refine blk_drew ?_ | refine blk_alloc ?_ _)); refine blk_put (cs := #[.string (⟨#[]⟩ : ByteArray), .string (⟨#[]⟩ : ByteArray), .slice none 0 0]) ?_ 0 _ rfl; (with_reducible repeat (first | refine blk_drewN ?_ _ | refine blk_drew ?_ | refine blk_alloc ?_ _)); exact BK522.out) hb); have n8_ := Aside0.mk (below_step bb hb); clear HO_485002; clear HO_506002; clear HO_513002; clear HO520; clear BK484; clear BK505; clear BK512; clear BK522; clear HB; have HO_485002 := n0_; have HO_506002 := n1_; have HO_513002 := n2_; have HO520 := n3_; have BK484 := n4_; have BK505 := n5_; have BK512 := n6_; have BK522 := n7_; have HB := n8_; clear n0_ n1_ n2_ n3_ n4_ n5_ n6_ n7_ n8_; (try clear hb); (try clear hb2); (try clear hk); (try clear hi); obtain ⟨hcz127_0, hcz127_1, hcz127_2, hfz127_0, hfz127_1, hfz127_2⟩ := cz3 BK522.out; obtain ⟨hcz128_0, hcz128_1, hcz128_2, hfz128_0, hfz128_1, hfz128_2⟩ := cz3 BK505.out) | (go_at_call 13; (with_reducible refine (impl_KindSame.calls k t499 t500 _ _ t501 t499 t500 _ _ t501 true _ ?side1 ?side2 ?side3 ?side4 A113.out).mono ?_); (case side1 => repeat (first | exact (Kd.R_reads' HO520.out).2.2 | (with_reducible refine Kd.C_alloc ?_ _) | (with_reducible refine Kd.C_drewN ?_ _) | (with_reducible refine Kd.C_drew ?_))); (case side2 => exact (Kd.R_reads' HO520.out).2.1); (case side3 => repeat (first | exact (Kd.R_reads' HO_506002.out).2.2 | (with_reducible refine Kd.C_alloc ?_ _) | (with_reducible refine Kd.C_drewN ?_ _) | (with_reducible refine Kd.C_drew ?_))); (case side4 => exact (Kd.R_reads' HO_506002.out).2.1); rintro e w129 ⟨rfl, hb⟩; have n0_ := Aside0.mk (Kd.R_below (ur HO_485002.out) hb); have n1_ := Aside0.mk (Kd.R_below (ur HO_506002.out) hb); have n2_ := Aside0.mk (Kd.R_below (ur HO_513002.out) hb); have n3_ := Aside0.mk (Kd.R_below (ur HO520.out) hb); have n4_ := Aside0.mk (blk_below (ub BK484.out) hb); have n5_ := Aside0.mk (blk_below (ub BK505.out) hb); have n6_ := Aside0.mk (blk_below (ub BK512.out) hb); have n7_ := Aside0.mk (blk_below (ub BK522.out) hb); have n8_ := Aside0.mk (below_step bb hb); clear HO_485002; clear HO_506002; clear HO_513002; clear HO520; clear BK484; clear BK505; clear BK512; clear BK522; clear HB; have HO_485002 := n0_; have HO_506002 := n1_; have HO_513002 := n2_; have HO520 := n3_; have BK484 := n4_; have BK505 := n5_; have BK512 := n6_; have BK522 := n7_; have HB := n8_; clear n0_ n1_ n2_ n3_ n4_ n5_ n6_ n7_ n8_; (try clear hb); (try clear hb2); (try clear hk); (try clear hi)))
     go_ret
     exact ⟨er, bb⟩
def laws_FnKindText.Pure : Prop := ∀ (l0 : List Int) (l1 : List Int), l0.length ≤ maxLen → l0.length * 1 ≤ 140737488351232 → (∀ x ∈ l0, (Lit.int .u8 x).wf = true) → l1.length ≤ maxLen → l1.length * 1 ≤ 140737488351232 → (∀ x ∈ l1, (Lit.int .u8 x).wf = true) → ∃ k, laws_FnKindText.Ok k l0 l1
theorem laws_FnKindText.walk (P : laws_FnKindText.Pure) (a0 : Option Addr) (len0 cap0 : Nat) (z0 : List Int) (a1 : Option Addr) (len1 cap1 : Nat) (z1 : List Int) (w : World) (w0 : (a0 = none ∧ len0 = 0 ∧ cap0 = 0 ∧ z0 = []) ∨ ∃ x, a0 = some x ∧ len0 ≤ cap0 ∧ cap0 ≤ maxLen ∧ z0.length = cap0 ∧ (∀ i, i < z0.length → w.cell? (x.add i) = some (.int .u8 (z0.getD i 0))) ∧ ∀ n ∈ z0, (Lit.int .u8 n).wf = true) (y0 : len0 * 1 ≤ 140737488351232) (w1 : (a1 = none ∧ len1 = 0 ∧ cap1 = 0 ∧ z1 = []) ∨ ∃ x, a1 = some x ∧ len1 ≤ cap1 ∧ cap1 ≤ maxLen ∧ z1.length = cap1 ∧ (∀ i, i < z1.length → w.cell? (x.add i) = some (.int .u8 (z1.getD i 0))) ∧ ∀ n ∈ z1, (Lit.int .u8 n).wf = true) (y1 : len1 * 1 ≤ 140737488351232) (hg_ : MaxOk w) :
  Calls Tryd.prog 7 #[.slice a0 len0 cap0, .slice a1 len1 cap1] w fun e w' => e = .returned (.bool true) ∧ Below w.heap.size w w' := by
 obtain ⟨l0, rfl, hr0, hm0, hw0, hc0⟩ := ReadsInt.ofRowC w0
 obtain ⟨l1, rfl, hr1, hm1, hw1, hc1⟩ := ReadsInt.ofRowC w1
 obtain ⟨k, h⟩ := P l0 l1 hm0 y0 hw0 hm1 y1 hw1
 exact laws_FnKindText.calls k _ _ l0 _ _ l1 w (Kd.C_of_reads (d := (0 : Int)) (h1 := fun _ => rfl) hr0) hc0 (Kd.C_of_reads (d := (0 : Int)) (h1 := fun _ => rfl) hr1) hc1 hg_ h
end Go.Proofs.YtengipddcaookaaDoor.PFnKindText
