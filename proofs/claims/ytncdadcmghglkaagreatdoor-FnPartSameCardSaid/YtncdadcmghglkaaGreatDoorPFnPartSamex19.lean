/- Printed walks; conditions: those in each statement. -/
import Derived.Test.YtncdadcmghglkaaGreatDoorVFnPartSameQt
import Derived.Test.YtncdadcmghglkaaGreatDoorVFnPartSameYt
import Derived.Test.YtncdadcmghglkaaGreatDoorPFnPartSamex26
import Derived.Test.YtncdadcmghglkaaGreatDoorPFnPartSamex0
import Derived.Test.YtncdadcmghglkaaGreatDoorPFnPartSamex13
import Derived.Test.YtncdadcmghglkaaGreatDoorPFnPartSamex14
import Derived.Test.YtncdadcmghglkaaGreatDoorPFnPartSamex15
import Derived.Test.YtncdadcmghglkaaGreatDoorPFnPartSamex18
-- short
-- dense
-- sq
-- sq2
namespace Go.Proofs.YtncdadcmghglkaaGreatDoor.PFnPartSame
open Go.RowKit Go.Proofs.YtncdadcmghglkaaGreatDoor.X Go.Proofs.YtncdadcmghglkaaGreatDoorW.PrintWords Go.Proofs.YtncdadcmghglkaaGreatDoorW.PrintLast Go.Proofs.YtncdadcmghglkaaGreatDoorW.PrintMore
attribute [local go_sem] max2_int min2_int max_two min_two max_three min_three max_four min_four   -- for this text's walks alone
set_option linter.unusedVariables false
set_option maxHeartbeats 8000000
set_option maxRecDepth 100000
set_option linter.unusedSimpArgs false
def spec_l8RawMakeText.f (k : Nat) (a0 : ByteArray) (a1 : ByteArray) : Option ((List (S69)) × List ByteArray × (List (S28)) × Bool) := (spec_EncodeName.f k a0).bind fun bt516 => ((spec_BestCode.f k a1).bind fun bt518 => ((spec_EncodeBytes.f k a1 bt518.1).bind fun bt520 => (if bt516.2 = true then (if bt518.2 = true then (if bt520.2 = true then ((spec_FieldValid.f k (⟨#[83, 117, 98, 106, 101, 99, 116]⟩ : ByteArray) bt516.1).bind fun t525 => (if t525 = true then ((spec_l8Body.f k bt520.1).bind fun t526 => (if t526 = true then ((some (([(⟨#[55, 98, 105, 116]⟩ : ByteArray), (⟨#[113, 117, 111, 116, 101, 100, 45, 112, 114, 105, 110, 116, 97, 98, 108, 101]⟩ : ByteArray), (⟨#[98, 97, 115, 101, 54, 52]⟩ : ByteArray)] : List ByteArray) : List ByteArray)).bind fun y527 => (if 0 ≤ bt518.1 then (if bt518.1 < (y527.length : Int) then (some ((([(⟨(⟨#[83, 117, 98, 106, 101, 99, 116]⟩ : ByteArray), bt516.1⟩ : S69), (⟨(⟨#[67, 111, 110, 116, 101, 110, 116, 45, 84, 121, 112, 101]⟩ : ByteArray), (⟨#[116, 101, 120, 116, 47, 112, 108, 97, 105, 110, 59, 32, 99, 104, 97, 114, 115, 101, 116, 61, 117, 116, 102, 45, 56]⟩ : ByteArray)⟩ : S69), (⟨(⟨#[67, 111, 110, 116, 101, 110, 116, 45, 84, 114, 97, 110, 115, 102, 101, 114, 45, 69, 110, 99, 111, 100, 105, 110, 103]⟩ : ByteArray), rdOf ByteArray.empty y527 bt518.1⟩ : S69)] : List (S69))), bt520.1, ([] : List (S28)), true)) else (none)) else (none))) else (some (([] : List (S69)), ([] : List ByteArray), ([] : List (S28)), false)))) else (some (([] : List (S69)), ([] : List ByteArray), ([] : List (S28)), false)))) else (some (([] : List (S69)), ([] : List ByteArray), ([] : List (S28)), false))) else (some (([] : List (S69)), ([] : List ByteArray), ([] : List (S28)), false))) else (some (([] : List (S69)), ([] : List ByteArray), ([] : List (S28)), false)))))
def spec_l8RawMakeText.T8 : Bool × List (List Nat × List Nat) := (true, [([], []), ([], []), ([], []), ([], []), ([2, 3], [2, 3]), ([4], [4]), ([5], [5]), ([0, 1, 6], [0, 1, 6]), ([7], [7]), ([], []), ([9, 8, 0, 1, 2, 3, 4, 5, 6, 7, 8, 9], [8, 9])])
def spec_l8RawMakeText.B8 : List Nat := [0, 0, 0, 0, 12, 28, 60, 127, 255, 0, 1023]
theorem spec_l8RawMakeText.tab8 : rtab .any (opsOf Tryz.f167 8) = spec_l8RawMakeText.T8 := by kernel_rfl
theorem spec_l8RawMakeText.bits8 : waitsOk spec_l8RawMakeText.T8.2 spec_l8RawMakeText.B8 = true := by kernel_rfl
theorem spec_l8RawMakeText.calls {k : Nat} {a0 a1 : ByteArray} {r1 : List (S69)} {r2 : List ByteArray} {r3 : List (S28)} {r4 : Bool} {w : World} (h : spec_l8RawMakeText.f k a0 a1 = some (r1, r2, r3, r4)) :
  Calls Tryz.prog 167 #[.string a0, .string a1] w fun e w' => ∃ v0_ v1_ v2_ : Value, e = .returned (.tuple #[.agg #[v0_, v1_, v2_], .bool r4]) ∧ Kd.R k69 69 w' w.heap.size (fun _ => True) v0_ r1 ∧ Kd.R Kd.string 9 w' w.heap.size (fun _ => True) v1_ r2 ∧ Kd.R k28 28 w' w.heap.size (fun k_ => some k_ ≠ (v0_ : Value).ownBlock ∧ some k_ ≠ (v1_ : Value).ownBlock) v2_ r3 ∧ Below w.heap.size w w' := by
 have hu28 := Tryz.underlying28
 have hu69 := Tryz.underlying69
 have HB := ak (Below.refl w.heap.size w)
 have H : ((spec_EncodeName.f k a0).bind fun bt516 => ((spec_BestCode.f k a1).bind fun bt518 => ((spec_EncodeBytes.f k a1 bt518.1).bind fun bt520 => (if bt516.2 = true then (if bt518.2 = true then (if bt520.2 = true then ((spec_FieldValid.f k (⟨#[83, 117, 98, 106, 101, 99, 116]⟩ : ByteArray) bt516.1).bind fun t525 => (if t525 = true then ((spec_l8Body.f k bt520.1).bind fun t526 => (if t526 = true then ((some (([(⟨#[55, 98, 105, 116]⟩ : ByteArray), (⟨#[113, 117, 111, 116, 101, 100, 45, 112, 114, 105, 110, 116, 97, 98, 108, 101]⟩ : ByteArray), (⟨#[98, 97, 115, 101, 54, 52]⟩ : ByteArray)] : List ByteArray) : List ByteArray)).bind fun y527 => (if 0 ≤ bt518.1 then (if bt518.1 < (y527.length : Int) then (some ((([(⟨(⟨#[83, 117, 98, 106, 101, 99, 116]⟩ : ByteArray), bt516.1⟩ : S69), (⟨(⟨#[67, 111, 110, 116, 101, 110, 116, 45, 84, 121, 112, 101]⟩ : ByteArray), (⟨#[116, 101, 120, 116, 47, 112, 108, 97, 105, 110, 59, 32, 99, 104, 97, 114, 115, 101, 116, 61, 117, 116, 102, 45, 56]⟩ : ByteArray)⟩ : S69), (⟨(⟨#[67, 111, 110, 116, 101, 110, 116, 45, 84, 114, 97, 110, 115, 102, 101, 114, 45, 69, 110, 99, 111, 100, 105, 110, 103]⟩ : ByteArray), rdOf ByteArray.empty y527 bt518.1⟩ : S69)] : List (S69))), bt520.1, ([] : List (S28)), true)) else (none)) else (none))) else (some (([] : List (S69)), ([] : List ByteArray), ([] : List (S28)), false)))) else (some (([] : List (S69)), ([] : List ByteArray), ([] : List (S28)), false)))) else (some (([] : List (S69)), ([] : List ByteArray), ([] : List (S28)), false))) else (some (([] : List (S69)), ([] : List ByteArray), ([] : List (S28)), false))) else (some (([] : List (S69)), ([] : List ByteArray), ([] : List (S28)), false)))))) = some (r1, r2, r3, r4) := h
 clear h
 replace H := bd H
 obtain ⟨⟨t516, t517⟩, A3, H⟩ := H
 (try dsimp only at H)
 replace H := bd H
 obtain ⟨⟨t518, t519⟩, A4, H⟩ := H
 (try dsimp only at H)
 replace H := bd H
 obtain ⟨⟨t520, t521⟩, A5, H⟩ := H
 (try dsimp only at H)
 replace H := sb H
 rcases H with ⟨rfl, H⟩ | ⟨rfl, H⟩
 ·
  replace H := sb H
  rcases H with ⟨rfl, H⟩ | ⟨rfl, H⟩
  ·
   replace H := sb H
   rcases H with ⟨rfl, H⟩ | ⟨rfl, H⟩
   ·
    replace H := bd H; obtain ⟨t525, A9, H⟩ := H; replace H := sb H
    rcases H with ⟨rfl, H⟩ | ⟨rfl, H⟩
    ·
     replace H := bd H; obtain ⟨t526, A11, H⟩ := H; replace H := sb H
     rcases H with ⟨rfl, H⟩ | ⟨rfl, H⟩
     ·
      replace H := ny H
      obtain ⟨y527, Ny527, H⟩ := H
      replace H := nde H; obtain ⟨c13b0, H⟩ := H; replace H := nde H; obtain ⟨c14b0, H⟩ := H
      obtain ⟨y531, Ny531⟩ := nm ([(⟨(⟨#[83, 117, 98, 106, 101, 99, 116]⟩ : ByteArray), t516⟩ : S69), (⟨(⟨#[67, 111, 110, 116, 101, 110, 116, 45, 84, 121, 112, 101]⟩ : ByteArray), (⟨#[116, 101, 120, 116, 47, 112, 108, 97, 105, 110, 59, 32, 99, 104, 97, 114, 115, 101, 116, 61, 117, 116, 102, 45, 56]⟩ : ByteArray)⟩ : S69), (⟨(⟨#[67, 111, 110, 116, 101, 110, 116, 45, 84, 114, 97, 110, 115, 102, 101, 114, 45, 69, 110, 99, 111, 100, 105, 110, 103]⟩ : ByteArray), rdOf ByteArray.empty y527 t518⟩ : S69)] : List (S69))
      rw [← Ny531.out] at H
      obtain ⟨rfl, rfl, rfl, rfl⟩ := s4 H
      go_enter Tryz.func167, Tryz.ntmps167
      try go_wp2_with (first | (refine bX HB 4 #[.slice none 0 0, .slice none 0 0, .slice none 0 0] 28 ?_; intro gb515 w15 BK515 GW515 hb; replace HB := bs HB hb; clear hb) | (refine gB Tryz.func194 (spec_EncodeName.calls A3.out) ?_; intro w16 hb; replace BK515 := kb BK515 hb; replace HB := bz HB hb; clear hb) | (refine gB Tryz.func195 (spec_BestCode.calls A4.out) ?_; intro w17 hb; replace BK515 := kb BK515 hb; replace HB := bz HB hb; clear hb) | (refine gV Tryz.func196 (spec_EncodeBytes.calls A5.out) ?_; rintro v522 w18 ⟨ho0, hb⟩; have HO523 := ak (Kd.R_lower ho0 (below_size bb)); replace BK515 := kb BK515 hb; replace HB := bz HB hb; clear hb; (try clear ho0)) | (refine bY HB 12 #[.string (⟨#[]⟩ : ByteArray), .string (⟨#[]⟩ : ByteArray)] 69 ?_; intro gb524 w19 BK524 GW524 hg hb; have NB515_524 := nl_ BK515 hg; have NB524_515 := ng_ BK515 hg; replace HO523 := rb HO523 hb; replace BK515 := kb BK515 hb; replace HB := bz HB hb; clear hb hg; have hnb20 := NB524_515.out; have hnc20 := NB515_524.out; have z21 := cz2 BK524.out) | (go_at_call 158; refine mB (spec_FieldValid.calls A9.out) ?_; intro w22 hb; replace HO523 := rg HO523 hb; replace BK515 := ak (blk_below (g := gb515) (o := .cells #[.slice none 0 0, .slice none 0 0, .slice none 0 0] 28 (0, 0)) (by (with_reducible repeat (first | refine blk_drewN ?_ _ | refine blk_drew ?_ | refine blk_alloc ?_ _)); refine blk_far ?_ NB515_524.out _; (with_reducible repeat (first | refine blk_drewN ?_ _ | refine blk_drew ?_ | refine blk_alloc ?_ _)); refine blk_far ?_ NB515_524.out _; (with_reducible repeat (first | refine blk_drewN ?_ _ | refine blk_drew ?_ | refine blk_alloc ?_ _)); exact BK515.out) hb); replace BK524 := ak (blk_below (g := gb524) (o := .cells #[.string (⟨#[83, 117, 98, 106, 101, 99, 116]⟩ : ByteArray), .string t516] 69 (0, 0)) (by (with_reducible repeat (first | refine blk_drewN ?_ _ | refine blk_drew ?_ | refine blk_alloc ?_ _)); refine blk_put (cs := #[.string (⟨#[83, 117, 98, 106, 101, 99, 116]⟩ : ByteArray), .string (⟨#[]⟩ : ByteArray)]) ?_ 1 _ rfl; (with_reducible repeat (first | refine blk_drewN ?_ _ | refine blk_drew ?_ | refine blk_alloc ?_ _)); refine blk_put (cs := #[.string (⟨#[]⟩ : ByteArray), .string (⟨#[]⟩ : ByteArray)]) ?_ 0 _ rfl; (with_reducible repeat (first | refine blk_drewN ?_ _ | refine blk_drew ?_ | refine blk_alloc ?_ _)); exact BK524.out) hb); replace HB := bz HB hb; clear hb; obtain ⟨Ao23, co23, eo23⟩ := Kd.R_slice HO523.out; subst eo23) | (go_at_call 114; refine mA (spec_l8Body.calls (cu ((Kd.R_reads' HO523.out).2.2)) ((Kd.R_reads' HO523.out).2.1) A11.out) ?_; intro nd; (try (rw [drewN_self w22]; generalize hq_ : World.drewN w22 _ = w22; have n0_ : Aside0 (Kd.R Kd.string 9 w22 w.heap.size (fun _ => True) (.slice Ao23 t520.length co23) t520) := ⟨by rw [← hq_]; exact (ur HO523.out)⟩; have n1_ : Aside0 (w22.heap[gb515]? = some (.cells #[.slice none 0 0, .slice none 0 0, .slice none 0 0] 28 (0, 0))) := ⟨by rw [← hq_]; exact (ub BK515.out)⟩; have n2_ : Aside0 (w22.heap[gb524]? = some (.cells #[.string (⟨#[83, 117, 98, 106, 101, 99, 116]⟩ : ByteArray), .string t516] 69 (0, 0))) := ⟨by rw [← hq_]; exact (ub BK524.out)⟩; have n3_ : Aside0 (Below w.heap.size w w22) := ⟨by rw [← hq_]; exact bb⟩; clear HO523 BK515 BK524 HB hq_; have HO523 := n0_; have BK515 := n1_; have BK524 := n2_; have HB := n3_; clear n0_ n1_ n2_ n3_))) | (refine lRM 54 Kd.string 9 [.string (⟨#[55, 98, 105, 116]⟩ : ByteArray), .string (⟨#[113, 117, 111, 116, 101, 100, 45, 112, 114, 105, 110, 116, 97, 98, 108, 101]⟩ : ByteArray), .string (⟨#[98, 97, 115, 101, 54, 52]⟩ : ByteArray)] Ny527 (Reps.one (show Kd.M Kd.string _ _ _ (⟨#[55, 98, 105, 116]⟩ : ByteArray) [.string (⟨#[55, 98, 105, 116]⟩ : ByteArray)] from rfl) (Reps.one (show Kd.M Kd.string _ _ _ (⟨#[113, 117, 111, 116, 101, 100, 45, 112, 114, 105, 110, 116, 97, 98, 108, 101]⟩ : ByteArray) [.string (⟨#[113, 117, 111, 116, 101, 100, 45, 112, 114, 105, 110, 116, 97, 98, 108, 101]⟩ : ByteArray)] from rfl) (Reps.one (show Kd.M Kd.string _ _ _ (⟨#[98, 97, 115, 101, 54, 52]⟩ : ByteArray) [.string (⟨#[98, 97, 115, 101, 54, 52]⟩ : ByteArray)] from rfl) (Reps.none _ _)))) ?_; intro v528 w24 ho25 hb; have HO529 := ak (Kd.R_lower (Kd.R_new' ho25 (Kd.R_lt (ur HO523.out))) (below_size bb)); replace HO523 := ak (Kd.R_elder' (ur HO523.out) (Kd.R_base ho25) hb); replace BK515 := kb BK515 hb; replace BK524 := ak (blk_below (g := gb524) (o := .cells #[.string (⟨#[83, 117, 98, 106, 101, 99, 116]⟩ : ByteArray), .string t516] 69 (0, 0)) (ub BK524.out) hb); replace HB := bz HB hb; clear hb ho25))
      replace HO523 := ak (Kd.R_drew HO523.out)
      replace HO529 := ak (Kd.R_drew HO529.out)
      replace BK515 := ak (blk_drew BK515.out)
      replace BK524 := ak (blk_drew BK524.out)
      replace HB := ak (below_drew1 HB.out)
      obtain ⟨Ao27, co27, eo27⟩ := Kd.R_slice HO529.out
      (first | subst eo27 | (injection eo27 with f1_ f2_ f3_; have f4_ := f1_.symm; have f5_ := f3_.symm; clear f1_ f2_ f3_; subst f4_; subst f5_))
      have p530 := zi t518
      have q530 := zj t518 y527.length
      obtain ⟨ad530, e530, hx530_0⟩ := Kd.at_string (Kd.R_reads' HO529.out).2.2 t518 p530 q530
      cases e530
      replace p530 := eq_true p530
      replace q530 := eq_true q530
      refine start_ (n := 11) (S := fun w' => w'.cell? ⟨gb524, 0, none⟩ = some (.string (⟨#[83, 117, 98, 106, 101, 99, 116]⟩ : ByteArray)) ∧ w'.cell? ⟨gb524, 1, none⟩ = some (.string t516) ∧ w'.cell? (ad530.add (t518).toNat) = some (.string (rdOf ByteArray.empty y527 t518))) (ds := []) #[false, false, false, false, false, false, false, false, false, false, false] (by kernel_rfl) rfl rfl ⟨(blk_cell BK524.out 0).trans rfl, (blk_cell BK524.out 1).trans rfl, hx530_0⟩ (fun hHeld => ?_); refine with_tabW spec_l8RawMakeText.tab8 spec_l8RawMakeText.bits8 (fun HT_ HW_ => ?_)
      generalize w24.drew = w26 at HO523 HO529 BK515 BK524 HB hx530_0 hHeld ⊢
      refine pure_ (i := 1) (N := some 56) (v := ?_) (a' := ?_) #[false, true, false, false, false, false, false, false, false, false, false] rfl rfl (any_of HT_.out (by kernel_rfl)) (fun _ _ _ h => h) (Or.inl ⟨by rfl, ?_⟩) ?_ ?_
      rotate_left
      ·
       intro w'
       go_simp
       with_reducible rfl
      rotate_left
      ·
       simp only [Act.put, l_a, l_b, l_c, i64_w, i32_w]
       rfl
      refine pure_ (i := 2) (N := some 57) (v := ?_) (a' := ?_) #[false, true, true, false, false, false, false, false, false, false, false] rfl rfl (any_of HT_.out (by kernel_rfl)) (fun _ _ _ h => h) (Or.inl ⟨by rfl, ?_⟩) ?_ ?_
      rotate_left
      ·
       intro w'
       go_simp
       with_reducible rfl
      rotate_left
      ·
       simp only [Act.put, l_a, l_b, l_c, i64_w, i32_w]
       rfl
      refine pure_ (i := 3) (N := some 58) (v := ?_) (a' := ?_) #[false, true, true, true, false, false, false, false, false, false, false] rfl rfl (any_of HT_.out (by kernel_rfl)) (fun _ _ _ h => h) (Or.inl ⟨by rfl, ?_⟩) ?_ ?_
      rotate_left
      ·
       intro w'
       go_simp
       with_reducible rfl
      rotate_left
      ·
       simp only [Act.put, l_a, l_b, l_c, i64_w, i32_w]
       rfl
      refine pure_ (i := 4) (N := some 59) (v := ?_) (a' := ?_) #[false, true, true, true, true, false, false, false, false, false, false] rfl rfl (any_of HT_.out (by kernel_rfl)) (fun _ _ _ h => h) (Or.inl ⟨by rfl, ?_⟩) ?_ ?_
      rotate_left
      ·
       intro w'
       go_simp
       with_reducible rfl
      rotate_left
      ·
       simp only [Act.put, l_a, l_b, l_c, i64_w, i32_w]
       rfl
      refine take_ (i := 0) (N := some 55) (v := ?_) (a' := ?_) #[true, true, true, true, true, false, false, false, false, false, false] rfl rfl (take_ofW HT_.out HW_.out (by kernel_rfl)) (fun _ _ _ h => h) (Or.inl ⟨by rfl, ?_⟩) hHeld ?_ ?_
      rotate_left
      ·
       rintro w' ⟨s0, s1, s2⟩
       go_simp
       with_reducible rfl
      rotate_left
      ·
       simp only [Act.put, l_a, l_b, l_c, i64_w, i32_w]
       rfl
      refine take_ (i := 5) (N := some 60) (v := ?_) (a' := ?_) #[true, true, true, true, true, true, false, false, false, false, false] rfl rfl (take_ofW HT_.out HW_.out (by kernel_rfl)) (fun _ _ _ h => h) (Or.inl ⟨by rfl, ?_⟩) hHeld ?_ ?_
      rotate_left
      ·
       rintro w' ⟨s0, s1, s2⟩
       go_simp
       with_reducible rfl
      rotate_left
      ·
       simp only [Act.put, l_a, l_b, l_c, i64_w, i32_w]
       rfl
      refine pure_ (i := 6) (N := some 61) (v := ?_) (a' := ?_) #[true, true, true, true, true, true, true, false, false, false, false] rfl rfl (any_of HT_.out (by kernel_rfl)) (fun _ _ _ h => h) (Or.inl ⟨by rfl, ?_⟩) ?_ ?_
      rotate_left
      ·
       intro w'
       go_simp
       with_reducible rfl
      rotate_left
      ·
       simp only [Act.put, l_a, l_b, l_c, i64_w, i32_w]
       rfl
      refine join_ (σ := Value × Nat) 1 #[true, true, true, true, true, true, true, true, true, true, false] (fun s_ => [(62, s_.1), (14, .pointer (some ⟨s_.2, 0, none⟩)), (63, .agg #[s_.1, .slice none 0 0, .slice none 0 0])]) (fun s_ w' => (w'.cell? ⟨gb524, 0, none⟩ = some (.string (⟨#[83, 117, 98, 106, 101, 99, 116]⟩ : ByteArray)) ∧ w'.cell? ⟨gb524, 1, none⟩ = some (.string t516) ∧ w'.cell? (ad530.add (t518).toNat) = some (.string (rdOf ByteArray.empty y527 t518))) ∧ (Kd.R Kd.string 9 w' w.heap.size (fun k_ => some k_ ≠ (.slice (some ad530) y527.length co27 : Value).ownBlock) (.slice Ao23 t520.length co23) t520) ∧ (Kd.R Kd.string 9 w' w.heap.size (fun k_ => some k_ ≠ (.slice Ao23 t520.length co23 : Value).ownBlock) (.slice (some ad530) y527.length co27) y527) ∧ (Kd.R k69 69 w' w.heap.size (fun k_ => k_ ≠ gb524) s_.1 y531) ∧ (w'.heap[gb515]? = some (.cells #[.slice none 0 0, .slice none 0 0, .slice none 0 0] 28 (0, 0))) ∧ (w'.heap[gb524]? = some (.cells #[.string (⟨#[83, 117, 98, 106, 101, 99, 116]⟩ : ByteArray), .string t516] 69 (0, 0))) ∧ (w'.heap[s_.2]? = some (.cells #[.slice none 0 0, .slice none 0 0, .slice none 0 0] 28 (0, 0))) ∧ (w.heap.size ≤ s_.2) ∧ (w.heap.size ≤ s_.2) ∧ (gb515 ≠ s_.2) ∧ (s_.2 ≠ gb515) ∧ (gb524 ≠ s_.2) ∧ (s_.2 ≠ gb524) ∧ (Below w.heap.size w w')) ?_ ?_
      rotate_left
      ·
       intro hCont
       refine two_ (i := 7) (j := 9) (Ni := some 62) (Nj := some 14) #[true, true, true, true, true, true, true, true, false, false, false] #[true, true, true, true, true, true, true, false, false, true, false] rfl rfl rfl rfl (two_of HT_.out (by kernel_rfl)) (by decide) (by decide) (fun K hK => ?_) (fun K hK => ?_)
       ·
        skip
        refine Kd.R_lit_step k69 _ 69 ?hg (N := 62) ?hd (xs := ([(⟨(⟨#[83, 117, 98, 106, 101, 99, 116]⟩ : ByteArray), t516⟩ : S69), (⟨(⟨#[67, 111, 110, 116, 101, 110, 116, 45, 84, 121, 112, 101]⟩ : ByteArray), (⟨#[116, 101, 120, 116, 47, 112, 108, 97, 105, 110, 59, 32, 99, 104, 97, 114, 115, 101, 116, 61, 117, 116, 102, 45, 56]⟩ : ByteArray)⟩ : S69), (⟨(⟨#[67, 111, 110, 116, 101, 110, 116, 45, 84, 114, 97, 110, 115, 102, 101, 114, 45, 69, 110, 99, 111, 100, 105, 110, 103]⟩ : ByteArray), rdOf ByteArray.empty y527 t518⟩ : S69)] : List (S69))) (inner := [.string (⟨#[83, 117, 98, 106, 101, 99, 116]⟩ : ByteArray), .string t516, .string (⟨#[67, 111, 110, 116, 101, 110, 116, 45, 84, 121, 112, 101]⟩ : ByteArray), .string (⟨#[116, 101, 120, 116, 47, 112, 108, 97, 105, 110, 59, 32, 99, 104, 97, 114, 115, 101, 116, 61, 117, 116, 102, 45, 56]⟩ : ByteArray), .string (⟨#[67, 111, 110, 116, 101, 110, 116, 45, 84, 114, 97, 110, 115, 102, 101, 114, 45, 69, 110, 99, 111, 100, 105, 110, 103]⟩ : ByteArray), .string (rdOf ByteArray.empty y527 t518)]) (ok := fun _ => True) (okp := fun _ => True) ?hr ?hp (fun _ hk => hk) trivial (Below.refl _ _) (Nat.le_refl _) (by simp) ?_; (case hd => rfl); (case hg => rfl); (case hr => first | (go_simp; done) | (go_simp; rfl)); (case hp => exact (Reps.c2 (show Kd.M k69 _ _ _ (⟨(⟨#[83, 117, 98, 106, 101, 99, 116]⟩ : ByteArray), t516⟩ : S69) [.string (⟨#[83, 117, 98, 106, 101, 99, 116]⟩ : ByteArray), .string t516] from (k69_mkM _ _ _ (⟨(⟨#[83, 117, 98, 106, 101, 99, 116]⟩ : ByteArray), t516⟩ : S69) )) (Reps.c2 (show Kd.M k69 _ _ _ (⟨(⟨#[67, 111, 110, 116, 101, 110, 116, 45, 84, 121, 112, 101]⟩ : ByteArray), (⟨#[116, 101, 120, 116, 47, 112, 108, 97, 105, 110, 59, 32, 99, 104, 97, 114, 115, 101, 116, 61, 117, 116, 102, 45, 56]⟩ : ByteArray)⟩ : S69) [.string (⟨#[67, 111, 110, 116, 101, 110, 116, 45, 84, 121, 112, 101]⟩ : ByteArray), .string (⟨#[116, 101, 120, 116, 47, 112, 108, 97, 105, 110, 59, 32, 99, 104, 97, 114, 115, 101, 116, 61, 117, 116, 102, 45, 56]⟩ : ByteArray)] from (k69_mkM _ _ _ (⟨(⟨#[67, 111, 110, 116, 101, 110, 116, 45, 84, 121, 112, 101]⟩ : ByteArray), (⟨#[116, 101, 120, 116, 47, 112, 108, 97, 105, 110, 59, 32, 99, 104, 97, 114, 115, 101, 116, 61, 117, 116, 102, 45, 56]⟩ : ByteArray)⟩ : S69) )) (Reps.c2 (show Kd.M k69 _ _ _ (⟨(⟨#[67, 111, 110, 116, 101, 110, 116, 45, 84, 114, 97, 110, 115, 102, 101, 114, 45, 69, 110, 99, 111, 100, 105, 110, 103]⟩ : ByteArray), rdOf ByteArray.empty y527 t518⟩ : S69) [.string (⟨#[67, 111, 110, 116, 101, 110, 116, 45, 84, 114, 97, 110, 115, 102, 101, 114, 45, 69, 110, 99, 111, 100, 105, 110, 103]⟩ : ByteArray), .string (rdOf ByteArray.empty y527 t518)] from (k69_mkM _ _ _ (⟨(⟨#[67, 111, 110, 116, 101, 110, 116, 45, 84, 114, 97, 110, 115, 102, 101, 114, 45, 69, 110, 99, 111, 100, 105, 110, 103]⟩ : ByteArray), rdOf ByteArray.empty y527 t518⟩ : S69) )) (Reps.none _ _)))))
        intro v532 w28 ho29 hb hg_ hnew_
        have HS2_ := (hb.cell (World.block_lt_of_cell? _ _ (hHeld.2.2))).trans (hHeld.2.2)
        clear hg_ hnew_
        (first | rw [← Ny531.out] at ho29 | (simp only [Int.reduceToNat] at ho29; rw [← Ny531.out] at ho29))
        have HO533 := ak (Kd.R_lower (Kd.R_newB ho29 (g := gb524) (o := .cells #[.string (⟨#[83, 117, 98, 106, 101, 99, 116]⟩ : ByteArray), .string t516] 69 (0, 0)) (ub BK524.out)) (below_size bb))
        replace HO523 := rb HO523 hb
        replace HO529 := rb HO529 hb
        replace BK515 := kb BK515 hb
        replace BK524 := ak (blk_below (g := gb524) (o := .cells #[.string (⟨#[83, 117, 98, 106, 101, 99, 116]⟩ : ByteArray), .string t516] 69 (0, 0)) (ub BK524.out) hb)
        replace HB := bz HB hb
        clear hb ho29
        obtain ⟨Ao30, co30, eo30⟩ := Kd.R_slice HO533.out
        (first | subst eo30 | (injection eo30 with f1_ f2_ f3_; have f4_ := f1_.symm; have f5_ := f3_.symm; clear f1_ f2_ f3_; subst f4_; subst f5_))
        refine hK.out _ _ ⟨(blk_cell BK524.out 0).trans rfl, (blk_cell BK524.out 1).trans rfl, HS2_⟩ (fun hHeld => ?_)
        clear hK K
        refine norm_ (a' := ?_) ?_ ?_
        rotate_left
        ·
         show Act.put _ (some 62) _ = _
         simp only [Act.put, l_a, l_b, l_c, i64_w, i32_w]
         rfl
        refine pure_ (i := 8) (N := some 63) (v := ?_) (a' := ?_) #[true, true, true, true, true, true, true, true, true, false, false] rfl rfl (any_of HT_.out (by kernel_rfl)) (fun _ _ _ h => h) (Or.inl ⟨by rfl, ?_⟩) ?_ ?_
        rotate_left
        ·
         intro w'
         go_simp
         with_reducible rfl
        rotate_left
        ·
         simp only [Act.put, l_a, l_b, l_c, i64_w, i32_w]
         rfl
        refine one_ (i := 9) (N := some 14) #[true, true, true, true, true, true, true, true, true, true, false] rfl rfl (one_of HT_.out (by kernel_rfl)) (by decide) (fun K hK => ?_)
        refine box_step ?hg (N := 14) ?hd (cs := #[.slice none 0 0, .slice none 0 0, .slice none 0 0]) (t := 28) ?hr ?_; (case hd => rfl); (case hg => rfl); (case hr => first | (go_simp; done) | (go_simp; rfl))
        intro gb534 hg w31 hbox hb
        have HS2_ := (hb.cell (World.block_lt_of_cell? _ _ (hHeld.2.2))).trans (hHeld.2.2)
        have BK534 := ak (hbox)
        have GW534 := ak ((by rw [hg]; exact (below_size bb) : w.heap.size ≤ gb534))
        have GE534 := ak ((by rw [hg]; exact (below_size bb) : w.heap.size ≤ gb534))
        have NB515_534 := nl_ BK515 hg
        have NB534_515 := ng_ BK515 hg
        have NB524_534 := ak ((by rw [hg]; exact Nat.ne_of_lt (blk_lt (g := gb524) (o := .cells #[.string (⟨#[83, 117, 98, 106, 101, 99, 116]⟩ : ByteArray), .string t516] 69 (0, 0)) (ub BK524.out)) : gb524 ≠ gb534))
        have NB534_524 := ak ((by rw [hg]; exact Nat.ne_of_gt (blk_lt (g := gb524) (o := .cells #[.string (⟨#[83, 117, 98, 106, 101, 99, 116]⟩ : ByteArray), .string t516] 69 (0, 0)) (ub BK524.out)) : gb534 ≠ gb524))
        replace HO523 := rb HO523 hb
        replace HO529 := rb HO529 hb
        replace HO533 := rb HO533 hb
        replace BK515 := kb BK515 hb
        replace BK524 := ak (blk_below (g := gb524) (o := .cells #[.string (⟨#[83, 117, 98, 106, 101, 99, 116]⟩ : ByteArray), .string t516] 69 (0, 0)) (ub BK524.out) hb)
        replace HB := bz HB hb
        clear hb hbox hg
        refine hK.out _ _ ⟨(blk_cell BK524.out 0).trans rfl, (blk_cell BK524.out 1).trans rfl, HS2_⟩ (fun hHeld => ?_)
        clear hK K
        refine norm_ (a' := ?_) ?_ ?_
        rotate_left
        ·
         show Act.put _ (some 14) _ = _
         simp only [Act.put, l_a, l_b, l_c, i64_w, i32_w]
         rfl
        exact norm_ (by simp only [putAll, Act.put, l_a, l_b, l_c]) (hCont (.slice Ao30 y531.length co30, gb534) _ ⟨hHeld, (ur (Kd.R_mono HO523.out (fun _ hk => hk.2))), (ur (Kd.R_mono HO529.out (fun _ hk => hk.2))), (ur (Kd.R_mono HO533.out (fun _ hk => hk.2))), (ub BK515.out), (ub BK524.out), (ub BK534.out), GW534.out, GE534.out, NB515_534.out, NB534_515.out, NB524_534.out, NB534_524.out, bb⟩)
       ·
        skip
        refine box_step ?hg (N := 14) ?hd (cs := #[.slice none 0 0, .slice none 0 0, .slice none 0 0]) (t := 28) ?hr ?_; (case hd => rfl); (case hg => rfl); (case hr => first | (go_simp; done) | (go_simp; rfl))
        intro gb534 hg w28 hbox hb
        have HS2_ := (hb.cell (World.block_lt_of_cell? _ _ (hHeld.2.2))).trans (hHeld.2.2)
        have BK534 := ak (hbox)
        have GW534 := ak ((by rw [hg]; exact (below_size bb) : w.heap.size ≤ gb534))
        have GE534 := ak ((by rw [hg]; exact (below_size bb) : w.heap.size ≤ gb534))
        have NB515_534 := nl_ BK515 hg
        have NB534_515 := ng_ BK515 hg
        have NB524_534 := ak ((by rw [hg]; exact Nat.ne_of_lt (blk_lt (g := gb524) (o := .cells #[.string (⟨#[83, 117, 98, 106, 101, 99, 116]⟩ : ByteArray), .string t516] 69 (0, 0)) (ub BK524.out)) : gb524 ≠ gb534))
        have NB534_524 := ak ((by rw [hg]; exact Nat.ne_of_gt (blk_lt (g := gb524) (o := .cells #[.string (⟨#[83, 117, 98, 106, 101, 99, 116]⟩ : ByteArray), .string t516] 69 (0, 0)) (ub BK524.out)) : gb534 ≠ gb524))
        replace HO523 := rb HO523 hb
        replace HO529 := rb HO529 hb
        replace BK515 := kb BK515 hb
        replace BK524 := ak (blk_below (g := gb524) (o := .cells #[.string (⟨#[83, 117, 98, 106, 101, 99, 116]⟩ : ByteArray), .string t516] 69 (0, 0)) (ub BK524.out) hb)
        replace HB := bz HB hb
        clear hb hbox hg
        refine hK.out _ _ ⟨(blk_cell BK524.out 0).trans rfl, (blk_cell BK524.out 1).trans rfl, HS2_⟩ (fun hHeld => ?_)
        clear hK K
        refine norm_ (a' := ?_) ?_ ?_
        rotate_left
        ·
         show Act.put _ (some 14) _ = _
         simp only [Act.put, l_a, l_b, l_c, i64_w, i32_w]
         rfl
        refine one_ (i := 7) (N := some 62) #[true, true, true, true, true, true, true, true, false, true, false] rfl rfl (one_of HT_.out (by kernel_rfl)) (by decide) (fun K hK => ?_)
        refine Kd.R_lit_step k69 _ 69 ?hg (N := 62) ?hd (xs := ([(⟨(⟨#[83, 117, 98, 106, 101, 99, 116]⟩ : ByteArray), t516⟩ : S69), (⟨(⟨#[67, 111, 110, 116, 101, 110, 116, 45, 84, 121, 112, 101]⟩ : ByteArray), (⟨#[116, 101, 120, 116, 47, 112, 108, 97, 105, 110, 59, 32, 99, 104, 97, 114, 115, 101, 116, 61, 117, 116, 102, 45, 56]⟩ : ByteArray)⟩ : S69), (⟨(⟨#[67, 111, 110, 116, 101, 110, 116, 45, 84, 114, 97, 110, 115, 102, 101, 114, 45, 69, 110, 99, 111, 100, 105, 110, 103]⟩ : ByteArray), rdOf ByteArray.empty y527 t518⟩ : S69)] : List (S69))) (inner := [.string (⟨#[83, 117, 98, 106, 101, 99, 116]⟩ : ByteArray), .string t516, .string (⟨#[67, 111, 110, 116, 101, 110, 116, 45, 84, 121, 112, 101]⟩ : ByteArray), .string (⟨#[116, 101, 120, 116, 47, 112, 108, 97, 105, 110, 59, 32, 99, 104, 97, 114, 115, 101, 116, 61, 117, 116, 102, 45, 56]⟩ : ByteArray), .string (⟨#[67, 111, 110, 116, 101, 110, 116, 45, 84, 114, 97, 110, 115, 102, 101, 114, 45, 69, 110, 99, 111, 100, 105, 110, 103]⟩ : ByteArray), .string (rdOf ByteArray.empty y527 t518)]) (ok := fun _ => True) (okp := fun _ => True) ?hr ?hp (fun _ hk => hk) trivial (Below.refl _ _) (Nat.le_refl _) (by simp) ?_; (case hd => rfl); (case hg => rfl); (case hr => first | (go_simp; done) | (go_simp; rfl)); (case hp => exact (Reps.c2 (show Kd.M k69 _ _ _ (⟨(⟨#[83, 117, 98, 106, 101, 99, 116]⟩ : ByteArray), t516⟩ : S69) [.string (⟨#[83, 117, 98, 106, 101, 99, 116]⟩ : ByteArray), .string t516] from (k69_mkM _ _ _ (⟨(⟨#[83, 117, 98, 106, 101, 99, 116]⟩ : ByteArray), t516⟩ : S69) )) (Reps.c2 (show Kd.M k69 _ _ _ (⟨(⟨#[67, 111, 110, 116, 101, 110, 116, 45, 84, 121, 112, 101]⟩ : ByteArray), (⟨#[116, 101, 120, 116, 47, 112, 108, 97, 105, 110, 59, 32, 99, 104, 97, 114, 115, 101, 116, 61, 117, 116, 102, 45, 56]⟩ : ByteArray)⟩ : S69) [.string (⟨#[67, 111, 110, 116, 101, 110, 116, 45, 84, 121, 112, 101]⟩ : ByteArray), .string (⟨#[116, 101, 120, 116, 47, 112, 108, 97, 105, 110, 59, 32, 99, 104, 97, 114, 115, 101, 116, 61, 117, 116, 102, 45, 56]⟩ : ByteArray)] from (k69_mkM _ _ _ (⟨(⟨#[67, 111, 110, 116, 101, 110, 116, 45, 84, 121, 112, 101]⟩ : ByteArray), (⟨#[116, 101, 120, 116, 47, 112, 108, 97, 105, 110, 59, 32, 99, 104, 97, 114, 115, 101, 116, 61, 117, 116, 102, 45, 56]⟩ : ByteArray)⟩ : S69) )) (Reps.c2 (show Kd.M k69 _ _ _ (⟨(⟨#[67, 111, 110, 116, 101, 110, 116, 45, 84, 114, 97, 110, 115, 102, 101, 114, 45, 69, 110, 99, 111, 100, 105, 110, 103]⟩ : ByteArray), rdOf ByteArray.empty y527 t518⟩ : S69) [.string (⟨#[67, 111, 110, 116, 101, 110, 116, 45, 84, 114, 97, 110, 115, 102, 101, 114, 45, 69, 110, 99, 111, 100, 105, 110, 103]⟩ : ByteArray), .string (rdOf ByteArray.empty y527 t518)] from (k69_mkM _ _ _ (⟨(⟨#[67, 111, 110, 116, 101, 110, 116, 45, 84, 114, 97, 110, 115, 102, 101, 114, 45, 69, 110, 99, 111, 100, 105, 110, 103]⟩ : ByteArray), rdOf ByteArray.empty y527 t518⟩ : S69) )) (Reps.none _ _)))))
        intro v532 w29 ho30 hb hg_ hnew_
        have HS2_ := (hb.cell (World.block_lt_of_cell? _ _ (hHeld.2.2))).trans (hHeld.2.2)
        clear hg_ hnew_
        (first | rw [← Ny531.out] at ho30 | (simp only [Int.reduceToNat] at ho30; rw [← Ny531.out] at ho30))
        have HO533 := ak (Kd.R_lower (Kd.R_newB ho30 (g := gb524) (o := .cells #[.string (⟨#[83, 117, 98, 106, 101, 99, 116]⟩ : ByteArray), .string t516] 69 (0, 0)) (ub BK524.out)) (below_size bb))
        replace HO523 := rb HO523 hb
        replace HO529 := rb HO529 hb
        replace BK515 := kb BK515 hb
        replace BK524 := ak (blk_below (g := gb524) (o := .cells #[.string (⟨#[83, 117, 98, 106, 101, 99, 116]⟩ : ByteArray), .string t516] 69 (0, 0)) (ub BK524.out) hb)
        replace BK534 := kb BK534 hb
        replace HB := bz HB hb
        clear hb ho30
        obtain ⟨Ao31, co31, eo31⟩ := Kd.R_slice HO533.out
        (first | subst eo31 | (injection eo31 with f1_ f2_ f3_; have f4_ := f1_.symm; have f5_ := f3_.symm; clear f1_ f2_ f3_; subst f4_; subst f5_))
        refine hK.out _ _ ⟨(blk_cell BK524.out 0).trans rfl, (blk_cell BK524.out 1).trans rfl, HS2_⟩ (fun hHeld => ?_)
        clear hK K
        refine norm_ (a' := ?_) ?_ ?_
        rotate_left
        ·
         show Act.put _ (some 62) _ = _
         simp only [Act.put, l_a, l_b, l_c, i64_w, i32_w]
         rfl
        refine pure_ (i := 8) (N := some 63) (v := ?_) (a' := ?_) #[true, true, true, true, true, true, true, true, true, true, false] rfl rfl (any_of HT_.out (by kernel_rfl)) (fun _ _ _ h => h) (Or.inl ⟨by rfl, ?_⟩) ?_ ?_
        rotate_left
        ·
         intro w'
         go_simp
         with_reducible rfl
        rotate_left
        ·
         simp only [Act.put, l_a, l_b, l_c, i64_w, i32_w]
         rfl
        exact norm_ (by simp only [putAll, Act.put, l_a, l_b, l_c]) (hCont (.slice Ao31 y531.length co31, gb534) _ ⟨hHeld, (ur (Kd.R_mono HO523.out (fun _ hk => hk.2))), (ur (Kd.R_mono HO529.out (fun _ hk => hk.2))), (ur (Kd.R_mono HO533.out (fun _ hk => hk.2))), (ub BK515.out), (ub BK524.out), (ub BK534.out), GW534.out, GE534.out, NB515_534.out, NB534_515.out, NB524_534.out, NB534_524.out, bb⟩)
      rintro ⟨v532, gb534⟩ w32 ⟨hS_, h0_, h1_, h2_, h3_, h4_, h5_, h6_, h7_, h8_, h9_, h10_, h11_, h12_⟩
      have n0_ : Aside0 (Kd.R Kd.string 9 w32 w.heap.size (fun k_ => some k_ ≠ (.slice (some ad530) y527.length co27 : Value).ownBlock) (.slice Ao23 t520.length co23) t520) := ⟨h0_⟩
      have n1_ : Aside0 (Kd.R Kd.string 9 w32 w.heap.size (fun k_ => some k_ ≠ (.slice Ao23 t520.length co23 : Value).ownBlock) (.slice (some ad530) y527.length co27) y527) := ⟨h1_⟩
      have n2_ : Aside0 (Kd.R k69 69 w32 w.heap.size (fun k_ => k_ ≠ gb524) v532 y531) := ⟨h2_⟩
      have n3_ : Aside0 (w32.heap[gb515]? = some (.cells #[.slice none 0 0, .slice none 0 0, .slice none 0 0] 28 (0, 0))) := ⟨h3_⟩
      have n4_ : Aside0 (w32.heap[gb524]? = some (.cells #[.string (⟨#[83, 117, 98, 106, 101, 99, 116]⟩ : ByteArray), .string t516] 69 (0, 0))) := ⟨h4_⟩
      have n5_ : Aside0 (w32.heap[gb534]? = some (.cells #[.slice none 0 0, .slice none 0 0, .slice none 0 0] 28 (0, 0))) := ⟨h5_⟩
      have n6_ : Aside0 (w.heap.size ≤ gb534) := ⟨h6_⟩
      have n7_ : Aside0 (w.heap.size ≤ gb534) := ⟨h7_⟩
      have n8_ : Aside0 (gb515 ≠ gb534) := ⟨h8_⟩
      have n9_ : Aside0 (gb534 ≠ gb515) := ⟨h9_⟩
      have n10_ : Aside0 (gb524 ≠ gb534) := ⟨h10_⟩
      have n11_ : Aside0 (gb534 ≠ gb524) := ⟨h11_⟩
      have n12_ : Aside0 (Below w.heap.size w w32) := ⟨h12_⟩
      clear HO523 HO529 BK515 BK524 HB h0_ h1_ h2_ h3_ h4_ h5_ h6_ h7_ h8_ h9_ h10_ h11_ h12_
      have HO523 := n0_
      have HO529 := n1_
      have HO533 := n2_
      have BK515 := n3_
      have BK524 := n4_
      have BK534 := n5_
      have GW534 := n6_
      have GE534 := n7_
      have NB515_534 := n8_
      have NB534_515 := n9_
      have NB524_534 := n10_
      have NB534_524 := n11_
      have HB := n12_
      clear n0_ n1_ n2_ n3_ n4_ n5_ n6_ n7_ n8_ n9_ n10_ n11_ n12_
      have hHeld : w32.cell? ⟨gb524, 0, none⟩ = some (.string (⟨#[83, 117, 98, 106, 101, 99, 116]⟩ : ByteArray)) ∧ w32.cell? ⟨gb524, 1, none⟩ = some (.string t516) ∧ w32.cell? (ad530.add (t518).toNat) = some (.string (rdOf ByteArray.empty y527 t518)) := hS_
      obtain ⟨Ao33, co33, eo33⟩ := Kd.R_slice HO533.out
      (first | subst eo33 | (injection eo33 with f1_ f2_ f3_; have f4_ := f1_.symm; have f5_ := f3_.symm; clear f1_ f2_ f3_; subst f4_; subst f5_))
      refine norm_ (a' := ?_) ?_ ?_
      rotate_left
      ·
       simp only [putAll, Act.put, l_a, l_b, l_c]
       rfl
      refine one_ (i := 10) (N := none) #[true, true, true, true, true, true, true, true, true, true, true] rfl rfl (one_of HT_.out (by kernel_rfl)) (by decide) (fun K hK => ?_)
      have hs34 : w32.cell? ⟨gb534, 0, none⟩ = some (.slice none 0 0) := (blk_cell BK534.out 0).trans rfl
      have hfs34 := blk_frozen BK534.out 0
      have hns34_0 := NB515_534.out
      have hns34_1 := NB524_534.out
      have hms34_0 := NB534_515.out
      have hms34_1 := NB534_524.out
      have hs35 : w32.cell? ⟨gb534, 1, none⟩ = some (.slice none 0 0) := (blk_cell BK534.out 1).trans rfl
      have hfs35 := blk_frozen BK534.out 1
      have hns35_0 := NB515_534.out
      have hns35_1 := NB524_534.out
      have hms35_0 := NB534_515.out
      have hms35_1 := NB534_524.out
      have hs36 : w32.cell? ⟨gb534, 2, none⟩ = some (.slice none 0 0) := (blk_cell BK534.out 2).trans rfl
      have hfs36 := blk_frozen BK534.out 2
      have hns36_0 := NB515_534.out
      have hns36_1 := NB524_534.out
      have hms36_0 := NB534_515.out
      have hms36_1 := NB534_524.out
      refine skip_ (w1 := ?_) (by rfl) rfl ?_ ?_
      rotate_left
      ·
       go_simp
       rfl
      refine hK.out _ _ ⟨((cell_far (p := ⟨gb534, _, none⟩) NB524_534.out _).trans (((cell_far (p := ⟨gb534, _, none⟩) NB524_534.out _).trans (((cell_far (p := ⟨gb534, _, none⟩) NB524_534.out _).trans (hHeld.1)))))), ((cell_far (p := ⟨gb534, _, none⟩) NB524_534.out _).trans (((cell_far (p := ⟨gb534, _, none⟩) NB524_534.out _).trans (((cell_far (p := ⟨gb534, _, none⟩) NB524_534.out _).trans (hHeld.2.1)))))), ((cell_far (p := ⟨gb534, _, none⟩) (by first | exact Kd.own_blk (Kd.R_ne HO529.out BK534.out (by decide)) | (rw [add_block]; exact Kd.own_blk (Kd.R_ne HO529.out BK534.out (by decide))) | (show (Addr.add _ _).block ≠ _; rw [add_block]; exact Kd.own_blk (Kd.R_ne HO529.out BK534.out (by decide))) | (dsimp only; exact Kd.own_blk (Kd.R_ne HO529.out BK534.out (by decide)))) _).trans (((cell_far (p := ⟨gb534, _, none⟩) (by first | exact Kd.own_blk (Kd.R_ne HO529.out BK534.out (by decide)) | (rw [add_block]; exact Kd.own_blk (Kd.R_ne HO529.out BK534.out (by decide))) | (show (Addr.add _ _).block ≠ _; rw [add_block]; exact Kd.own_blk (Kd.R_ne HO529.out BK534.out (by decide))) | (dsimp only; exact Kd.own_blk (Kd.R_ne HO529.out BK534.out (by decide)))) _).trans (((cell_far (p := ⟨gb534, _, none⟩) (by first | exact Kd.own_blk (Kd.R_ne HO529.out BK534.out (by decide)) | (rw [add_block]; exact Kd.own_blk (Kd.R_ne HO529.out BK534.out (by decide))) | (show (Addr.add _ _).block ≠ _; rw [add_block]; exact Kd.own_blk (Kd.R_ne HO529.out BK534.out (by decide))) | (dsimp only; exact Kd.own_blk (Kd.R_ne HO529.out BK534.out (by decide)))) _).trans (hHeld.2.2))))))⟩ (fun hHeld => ?_)
      clear hK K
      refine done_ (done_of HT_.out (by kernel_rfl)) ?_
      have hnb37 := NB534_515.out
      have hnc37 := NB515_534.out
      have hnb38 := NB534_524.out
      have hnc38 := NB524_534.out
      have z39 := cz3 BK534.out
      have z40 := cz3 BK515.out
      have z9999 := cz3 (blk_put (cs' := #[.slice Ao33 y531.length co33, .slice Ao23 t520.length co23, .slice none 0 0]) (blk_put (cs' := #[.slice Ao33 y531.length co33, .slice none 0 0, .slice none 0 0]) (blk_put (cs' := #[.slice Ao33 y531.length co33, .slice none 0 0, .slice none 0 0]) (blk_put (cs' := #[.slice Ao33 y531.length co33, .slice none 0 0, .slice none 0 0]) BK534.out 0 (.slice Ao33 y531.length co33) rfl) 1 (.slice none 0 0) rfl) 2 (.slice none 0 0) rfl) 1 (.slice Ao23 t520.length co23) rfl)
      try go_wp2
      refine bodyPost_ret (results_ct rfl _ _ gb515 28 #[.slice Ao33 y531.length co33, .slice Ao23 t520.length co23, .slice none 0 0] (0, 0) _ rfl (by (with_reducible repeat (first | refine blk_drewN ?_ _ | refine blk_drew ?_ | refine blk_alloc ?_ _)); refine blk_put (cs := #[.slice Ao33 y531.length co33, .slice Ao23 t520.length co23, .slice none 0 0]) ?_ 2 _ rfl; (with_reducible repeat (first | refine blk_drewN ?_ _ | refine blk_drew ?_ | refine blk_alloc ?_ _)); refine blk_put (cs := #[.slice Ao33 y531.length co33, .slice none 0 0, .slice none 0 0]) ?_ 1 _ rfl; (with_reducible repeat (first | refine blk_drewN ?_ _ | refine blk_drew ?_ | refine blk_alloc ?_ _)); refine blk_put (cs := #[.slice none 0 0, .slice none 0 0, .slice none 0 0]) ?_ 0 _ rfl; (with_reducible repeat (first | refine blk_drewN ?_ _ | refine blk_drew ?_ | refine blk_alloc ?_ _)); refine blk_far ?_ NB515_534.out _; (with_reducible repeat (first | refine blk_drewN ?_ _ | refine blk_drew ?_ | refine blk_alloc ?_ _)); refine blk_far ?_ NB515_534.out _; (with_reducible repeat (first | refine blk_drewN ?_ _ | refine blk_drew ?_ | refine blk_alloc ?_ _)); refine blk_far ?_ NB515_534.out _; (with_reducible repeat (first | refine blk_drewN ?_ _ | refine blk_drew ?_ | refine blk_alloc ?_ _)); refine blk_far ?_ NB515_534.out _; (with_reducible repeat (first | refine blk_drewN ?_ _ | refine blk_drew ?_ | refine blk_alloc ?_ _)); exact BK515.out) Tryz.underlying28 rfl (by kernel_rfl)) rfl ?_
      exact ⟨_, _, _, er, rr, rr, nx, bb⟩
     ·
      obtain ⟨rfl, rfl, rfl, rfl⟩ := s4 H
      go_enter Tryz.func167, Tryz.ntmps167
      go_wp2_with (first | (refine bX HB 4 #[.slice none 0 0, .slice none 0 0, .slice none 0 0] 28 ?_; intro gb515 w41 BK515 GW515 hb; replace HB := bs HB hb; clear hb) | (refine gB Tryz.func194 (spec_EncodeName.calls A3.out) ?_; intro w42 hb; replace BK515 := kb BK515 hb; replace HB := bz HB hb; clear hb) | (refine gB Tryz.func195 (spec_BestCode.calls A4.out) ?_; intro w43 hb; replace BK515 := kb BK515 hb; replace HB := bz HB hb; clear hb) | (refine gV Tryz.func196 (spec_EncodeBytes.calls A5.out) ?_; rintro v522 w44 ⟨ho0, hb⟩; have HO523 := ak (Kd.R_lower ho0 (below_size bb)); replace BK515 := kb BK515 hb; replace HB := bz HB hb; clear hb; (try clear ho0)) | (refine bY HB 12 #[.string (⟨#[]⟩ : ByteArray), .string (⟨#[]⟩ : ByteArray)] 69 ?_; intro gb524 w45 BK524 GW524 hg hb; have NB515_524 := nl_ BK515 hg; have NB524_515 := ng_ BK515 hg; replace HO523 := rb HO523 hb; replace BK515 := kb BK515 hb; replace HB := bz HB hb; clear hb hg; have hnb46 := NB524_515.out; have hnc46 := NB515_524.out; have z47 := cz2 BK524.out) | (go_at_call 158; refine mB (spec_FieldValid.calls A9.out) ?_; intro w48 hb; replace HO523 := rg HO523 hb; replace BK515 := ak (blk_below (g := gb515) (o := .cells #[.slice none 0 0, .slice none 0 0, .slice none 0 0] 28 (0, 0)) (by (with_reducible repeat (first | refine blk_drewN ?_ _ | refine blk_drew ?_ | refine blk_alloc ?_ _)); refine blk_far ?_ NB515_524.out _; (with_reducible repeat (first | refine blk_drewN ?_ _ | refine blk_drew ?_ | refine blk_alloc ?_ _)); refine blk_far ?_ NB515_524.out _; (with_reducible repeat (first | refine blk_drewN ?_ _ | refine blk_drew ?_ | refine blk_alloc ?_ _)); exact BK515.out) hb); replace BK524 := ak (blk_below (g := gb524) (o := .cells #[.string (⟨#[83, 117, 98, 106, 101, 99, 116]⟩ : ByteArray), .string t516] 69 (0, 0)) (by (with_reducible repeat (first | refine blk_drewN ?_ _ | refine blk_drew ?_ | refine blk_alloc ?_ _)); refine blk_put (cs := #[.string (⟨#[83, 117, 98, 106, 101, 99, 116]⟩ : ByteArray), .string (⟨#[]⟩ : ByteArray)]) ?_ 1 _ rfl; (with_reducible repeat (first | refine blk_drewN ?_ _ | refine blk_drew ?_ | refine blk_alloc ?_ _)); refine blk_put (cs := #[.string (⟨#[]⟩ : ByteArray), .string (⟨#[]⟩ : ByteArray)]) ?_ 0 _ rfl; (with_reducible repeat (first | refine blk_drewN ?_ _ | refine blk_drew ?_ | refine blk_alloc ?_ _)); exact BK524.out) hb); replace HB := bz HB hb; clear hb; obtain ⟨Ao49, co49, eo49⟩ := Kd.R_slice HO523.out; subst eo49) | (go_at_call 114; refine mA (spec_l8Body.calls (cu ((Kd.R_reads' HO523.out).2.2)) ((Kd.R_reads' HO523.out).2.1) A11.out) ?_; intro nd; (try (rw [drewN_self w48]; generalize hq_ : World.drewN w48 _ = w48; have n0_ : Aside0 (Kd.R Kd.string 9 w48 w.heap.size (fun _ => True) (.slice Ao49 t520.length co49) t520) := ⟨by rw [← hq_]; exact (ur HO523.out)⟩; have n1_ : Aside0 (w48.heap[gb515]? = some (.cells #[.slice none 0 0, .slice none 0 0, .slice none 0 0] 28 (0, 0))) := ⟨by rw [← hq_]; exact (ub BK515.out)⟩; have n2_ : Aside0 (w48.heap[gb524]? = some (.cells #[.string (⟨#[83, 117, 98, 106, 101, 99, 116]⟩ : ByteArray), .string t516] 69 (0, 0))) := ⟨by rw [← hq_]; exact (ub BK524.out)⟩; have n3_ : Aside0 (Below w.heap.size w w48) := ⟨by rw [← hq_]; exact bb⟩; clear HO523 BK515 BK524 HB hq_; have HO523 := n0_; have BK515 := n1_; have BK524 := n2_; have HB := n3_; clear n0_ n1_ n2_ n3_)); have z50 := cz3 BK515.out))
      refine bodyPost_ret (results_ct rfl _ _ gb515 28 #[.slice none 0 0, .slice none 0 0, .slice none 0 0] (0, 0) _ rfl (by (with_reducible repeat (first | refine blk_drewN ?_ _ | refine blk_drew ?_ | refine blk_alloc ?_ _)); refine blk_put (cs := #[.slice none 0 0, .slice none 0 0, .slice none 0 0]) ?_ 2 _ rfl; (with_reducible repeat (first | refine blk_drewN ?_ _ | refine blk_drew ?_ | refine blk_alloc ?_ _)); refine blk_put (cs := #[.slice none 0 0, .slice none 0 0, .slice none 0 0]) ?_ 1 _ rfl; (with_reducible repeat (first | refine blk_drewN ?_ _ | refine blk_drew ?_ | refine blk_alloc ?_ _)); refine blk_put (cs := #[.slice none 0 0, .slice none 0 0, .slice none 0 0]) ?_ 0 _ rfl; (with_reducible repeat (first | refine blk_drewN ?_ _ | refine blk_drew ?_ | refine blk_alloc ?_ _)); exact BK515.out) Tryz.underlying28 rfl (by kernel_rfl)) rfl ?_
      exact ⟨_, _, _, er, nx, nx, nx, bb⟩
    ·
     obtain ⟨rfl, rfl, rfl, rfl⟩ := s4 H
     go_enter Tryz.func167, Tryz.ntmps167
     go_wp2_with (first | (refine bX HB 4 #[.slice none 0 0, .slice none 0 0, .slice none 0 0] 28 ?_; intro gb515 w51 BK515 GW515 hb; replace HB := bs HB hb; clear hb) | (refine gB Tryz.func194 (spec_EncodeName.calls A3.out) ?_; intro w52 hb; replace BK515 := kb BK515 hb; replace HB := bz HB hb; clear hb) | (refine gB Tryz.func195 (spec_BestCode.calls A4.out) ?_; intro w53 hb; replace BK515 := kb BK515 hb; replace HB := bz HB hb; clear hb) | (refine gV Tryz.func196 (spec_EncodeBytes.calls A5.out) ?_; rintro v522 w54 ⟨ho0, hb⟩; have HO523 := ak (Kd.R_lower ho0 (below_size bb)); replace BK515 := kb BK515 hb; replace HB := bz HB hb; clear hb; (try clear ho0)) | (refine bY HB 12 #[.string (⟨#[]⟩ : ByteArray), .string (⟨#[]⟩ : ByteArray)] 69 ?_; intro gb524 w55 BK524 GW524 hg hb; have NB515_524 := nl_ BK515 hg; have NB524_515 := ng_ BK515 hg; replace HO523 := rb HO523 hb; replace BK515 := kb BK515 hb; replace HB := bz HB hb; clear hb hg; have hnb56 := NB524_515.out; have hnc56 := NB515_524.out; have z57 := cz2 BK524.out) | (go_at_call 158; refine mB (spec_FieldValid.calls A9.out) ?_; intro w58 hb; replace HO523 := rg HO523 hb; replace BK515 := ak (blk_below (g := gb515) (o := .cells #[.slice none 0 0, .slice none 0 0, .slice none 0 0] 28 (0, 0)) (by (with_reducible repeat (first | refine blk_drewN ?_ _ | refine blk_drew ?_ | refine blk_alloc ?_ _)); refine blk_far ?_ NB515_524.out _; (with_reducible repeat (first | refine blk_drewN ?_ _ | refine blk_drew ?_ | refine blk_alloc ?_ _)); refine blk_far ?_ NB515_524.out _; (with_reducible repeat (first | refine blk_drewN ?_ _ | refine blk_drew ?_ | refine blk_alloc ?_ _)); exact BK515.out) hb); replace BK524 := ak (blk_below (g := gb524) (o := .cells #[.string (⟨#[83, 117, 98, 106, 101, 99, 116]⟩ : ByteArray), .string t516] 69 (0, 0)) (by (with_reducible repeat (first | refine blk_drewN ?_ _ | refine blk_drew ?_ | refine blk_alloc ?_ _)); refine blk_put (cs := #[.string (⟨#[83, 117, 98, 106, 101, 99, 116]⟩ : ByteArray), .string (⟨#[]⟩ : ByteArray)]) ?_ 1 _ rfl; (with_reducible repeat (first | refine blk_drewN ?_ _ | refine blk_drew ?_ | refine blk_alloc ?_ _)); refine blk_put (cs := #[.string (⟨#[]⟩ : ByteArray), .string (⟨#[]⟩ : ByteArray)]) ?_ 0 _ rfl; (with_reducible repeat (first | refine blk_drewN ?_ _ | refine blk_drew ?_ | refine blk_alloc ?_ _)); exact BK524.out) hb); replace HB := bz HB hb; clear hb; have z59 := cz3 BK515.out))
     refine bodyPost_ret (results_ct rfl _ _ gb515 28 #[.slice none 0 0, .slice none 0 0, .slice none 0 0] (0, 0) _ rfl (by (with_reducible repeat (first | refine blk_drewN ?_ _ | refine blk_drew ?_ | refine blk_alloc ?_ _)); refine blk_put (cs := #[.slice none 0 0, .slice none 0 0, .slice none 0 0]) ?_ 2 _ rfl; (with_reducible repeat (first | refine blk_drewN ?_ _ | refine blk_drew ?_ | refine blk_alloc ?_ _)); refine blk_put (cs := #[.slice none 0 0, .slice none 0 0, .slice none 0 0]) ?_ 1 _ rfl; (with_reducible repeat (first | refine blk_drewN ?_ _ | refine blk_drew ?_ | refine blk_alloc ?_ _)); refine blk_put (cs := #[.slice none 0 0, .slice none 0 0, .slice none 0 0]) ?_ 0 _ rfl; (with_reducible repeat (first | refine blk_drewN ?_ _ | refine blk_drew ?_ | refine blk_alloc ?_ _)); exact BK515.out) Tryz.underlying28 rfl (by kernel_rfl)) rfl ?_
     exact ⟨_, _, _, er, nx, nx, nx, bb⟩
   ·
    obtain ⟨rfl, rfl, rfl, rfl⟩ := s4 H
    go_enter Tryz.func167, Tryz.ntmps167
    go_wp2_with (first | (refine bX HB 4 #[.slice none 0 0, .slice none 0 0, .slice none 0 0] 28 ?_; intro gb515 w60 BK515 GW515 hb; replace HB := bs HB hb; clear hb) | (refine gB Tryz.func194 (spec_EncodeName.calls A3.out) ?_; intro w61 hb; replace BK515 := kb BK515 hb; replace HB := bz HB hb; clear hb) | (refine gB Tryz.func195 (spec_BestCode.calls A4.out) ?_; intro w62 hb; replace BK515 := kb BK515 hb; replace HB := bz HB hb; clear hb) | (refine gV Tryz.func196 (spec_EncodeBytes.calls A5.out) ?_; rintro v522 w63 ⟨ho0, hb⟩; have HO523 := ak (Kd.R_lower ho0 (below_size bb)); replace BK515 := kb BK515 hb; replace HB := bz HB hb; clear hb; (try clear ho0)) | (refine bY HB 12 #[.string (⟨#[]⟩ : ByteArray), .string (⟨#[]⟩ : ByteArray)] 69 ?_; intro gb524 w64 BK524 GW524 hg hb; have NB515_524 := nl_ BK515 hg; have NB524_515 := ng_ BK515 hg; replace HO523 := rb HO523 hb; replace BK515 := kb BK515 hb; replace HB := bz HB hb; clear hb hg; have hnb65 := NB524_515.out; have hnc65 := NB515_524.out; have z66 := cz2 BK524.out; have z67 := cz3 BK515.out))
    refine bodyPost_ret (results_ct rfl _ _ gb515 28 #[.slice none 0 0, .slice none 0 0, .slice none 0 0] (0, 0) _ rfl (by (with_reducible repeat (first | refine blk_drewN ?_ _ | refine blk_drew ?_ | refine blk_alloc ?_ _)); refine blk_put (cs := #[.slice none 0 0, .slice none 0 0, .slice none 0 0]) ?_ 2 _ rfl; (with_reducible repeat (first | refine blk_drewN ?_ _ | refine blk_drew ?_ | refine blk_alloc ?_ _)); refine blk_put (cs := #[.slice none 0 0, .slice none 0 0, .slice none 0 0]) ?_ 1 _ rfl; (with_reducible repeat (first | refine blk_drewN ?_ _ | refine blk_drew ?_ | refine blk_alloc ?_ _)); refine blk_put (cs := #[.slice none 0 0, .slice none 0 0, .slice none 0 0]) ?_ 0 _ rfl; (with_reducible repeat (first | refine blk_drewN ?_ _ | refine blk_drew ?_ | refine blk_alloc ?_ _)); refine blk_far ?_ NB515_524.out _; (with_reducible repeat (first | refine blk_drewN ?_ _ | refine blk_drew ?_ | refine blk_alloc ?_ _)); refine blk_far ?_ NB515_524.out _; (with_reducible repeat (first | refine blk_drewN ?_ _ | refine blk_drew ?_ | refine blk_alloc ?_ _)); exact BK515.out) Tryz.underlying28 rfl (by kernel_rfl)) rfl ?_
    exact ⟨_, _, _, er, nx, nx, nx, bb⟩
  ·
   obtain ⟨rfl, rfl, rfl, rfl⟩ := s4 H
   go_enter Tryz.func167, Tryz.ntmps167
   go_wp2_with (first | (refine bX HB 4 #[.slice none 0 0, .slice none 0 0, .slice none 0 0] 28 ?_; intro gb515 w68 BK515 GW515 hb; replace HB := bs HB hb; clear hb) | (refine gB Tryz.func194 (spec_EncodeName.calls A3.out) ?_; intro w69 hb; replace BK515 := kb BK515 hb; replace HB := bz HB hb; clear hb) | (refine gB Tryz.func195 (spec_BestCode.calls A4.out) ?_; intro w70 hb; replace BK515 := kb BK515 hb; replace HB := bz HB hb; clear hb) | (refine gV Tryz.func196 (spec_EncodeBytes.calls A5.out) ?_; rintro v522 w71 ⟨ho0, hb⟩; have HO523 := ak (Kd.R_lower ho0 (below_size bb)); replace BK515 := kb BK515 hb; replace HB := bz HB hb; clear hb; (try clear ho0)) | (refine bY HB 12 #[.string (⟨#[]⟩ : ByteArray), .string (⟨#[]⟩ : ByteArray)] 69 ?_; intro gb524 w72 BK524 GW524 hg hb; have NB515_524 := nl_ BK515 hg; have NB524_515 := ng_ BK515 hg; replace HO523 := rb HO523 hb; replace BK515 := kb BK515 hb; replace HB := bz HB hb; clear hb hg; have hnb73 := NB524_515.out; have hnc73 := NB515_524.out; have z74 := cz2 BK524.out; have z75 := cz3 BK515.out))
   refine bodyPost_ret (results_ct rfl _ _ gb515 28 #[.slice none 0 0, .slice none 0 0, .slice none 0 0] (0, 0) _ rfl (by (with_reducible repeat (first | refine blk_drewN ?_ _ | refine blk_drew ?_ | refine blk_alloc ?_ _)); refine blk_put (cs := #[.slice none 0 0, .slice none 0 0, .slice none 0 0]) ?_ 2 _ rfl; (with_reducible repeat (first | refine blk_drewN ?_ _ | refine blk_drew ?_ | refine blk_alloc ?_ _)); refine blk_put (cs := #[.slice none 0 0, .slice none 0 0, .slice none 0 0]) ?_ 1 _ rfl; (with_reducible repeat (first | refine blk_drewN ?_ _ | refine blk_drew ?_ | refine blk_alloc ?_ _)); refine blk_put (cs := #[.slice none 0 0, .slice none 0 0, .slice none 0 0]) ?_ 0 _ rfl; (with_reducible repeat (first | refine blk_drewN ?_ _ | refine blk_drew ?_ | refine blk_alloc ?_ _)); refine blk_far ?_ NB515_524.out _; (with_reducible repeat (first | refine blk_drewN ?_ _ | refine blk_drew ?_ | refine blk_alloc ?_ _)); refine blk_far ?_ NB515_524.out _; (with_reducible repeat (first | refine blk_drewN ?_ _ | refine blk_drew ?_ | refine blk_alloc ?_ _)); exact BK515.out) Tryz.underlying28 rfl (by kernel_rfl)) rfl ?_
   exact ⟨_, _, _, er, nx, nx, nx, bb⟩
 ·
  obtain ⟨rfl, rfl, rfl, rfl⟩ := s4 H
  go_enter Tryz.func167, Tryz.ntmps167
  go_wp2_with (first | (refine bX HB 4 #[.slice none 0 0, .slice none 0 0, .slice none 0 0] 28 ?_; intro gb515 w76 BK515 GW515 hb; replace HB := bs HB hb; clear hb) | (refine gB Tryz.func194 (spec_EncodeName.calls A3.out) ?_; intro w77 hb; replace BK515 := kb BK515 hb; replace HB := bz HB hb; clear hb) | (refine gB Tryz.func195 (spec_BestCode.calls A4.out) ?_; intro w78 hb; replace BK515 := kb BK515 hb; replace HB := bz HB hb; clear hb) | (refine gV Tryz.func196 (spec_EncodeBytes.calls A5.out) ?_; rintro v522 w79 ⟨ho0, hb⟩; have HO523 := ak (Kd.R_lower ho0 (below_size bb)); replace BK515 := kb BK515 hb; replace HB := bz HB hb; clear hb; (try clear ho0)) | (refine bY HB 12 #[.string (⟨#[]⟩ : ByteArray), .string (⟨#[]⟩ : ByteArray)] 69 ?_; intro gb524 w80 BK524 GW524 hg hb; have NB515_524 := nl_ BK515 hg; have NB524_515 := ng_ BK515 hg; replace HO523 := rb HO523 hb; replace BK515 := kb BK515 hb; replace HB := bz HB hb; clear hb hg; have hnb81 := NB524_515.out; have hnc81 := NB515_524.out; have z82 := cz2 BK524.out; have z83 := cz3 BK515.out))
  refine bodyPost_ret (results_ct rfl _ _ gb515 28 #[.slice none 0 0, .slice none 0 0, .slice none 0 0] (0, 0) _ rfl (by (with_reducible repeat (first | refine blk_drewN ?_ _ | refine blk_drew ?_ | refine blk_alloc ?_ _)); refine blk_put (cs := #[.slice none 0 0, .slice none 0 0, .slice none 0 0]) ?_ 2 _ rfl; (with_reducible repeat (first | refine blk_drewN ?_ _ | refine blk_drew ?_ | refine blk_alloc ?_ _)); refine blk_put (cs := #[.slice none 0 0, .slice none 0 0, .slice none 0 0]) ?_ 1 _ rfl; (with_reducible repeat (first | refine blk_drewN ?_ _ | refine blk_drew ?_ | refine blk_alloc ?_ _)); refine blk_put (cs := #[.slice none 0 0, .slice none 0 0, .slice none 0 0]) ?_ 0 _ rfl; (with_reducible repeat (first | refine blk_drewN ?_ _ | refine blk_drew ?_ | refine blk_alloc ?_ _)); refine blk_far ?_ NB515_524.out _; (with_reducible repeat (first | refine blk_drewN ?_ _ | refine blk_drew ?_ | refine blk_alloc ?_ _)); refine blk_far ?_ NB515_524.out _; (with_reducible repeat (first | refine blk_drewN ?_ _ | refine blk_drew ?_ | refine blk_alloc ?_ _)); exact BK515.out) Tryz.underlying28 rfl (by kernel_rfl)) rfl ?_
  exact ⟨_, _, _, er, nx, nx, nx, bb⟩
def spec_MakeText.f (k : Nat) (a0 : ByteArray) (a1 : ByteArray) : Option ((List (S69)) × List ByteArray × (List (S28)) × Bool) := (spec_l8RawMakeText.f k a0 a1).bind fun bt536 => ((spec_l13OwnPart.f k bt536.1 bt536.2.1 bt536.2.2.1).bind fun bt547 => (some (bt547.1, bt547.2.1, bt547.2.2, bt536.2.2.2)))
theorem spec_MakeText.calls {k : Nat} {a0 a1 : ByteArray} {r1 : List (S69)} {r2 : List ByteArray} {r3 : List (S28)} {r4 : Bool} {w : World} (h : spec_MakeText.f k a0 a1 = some (r1, r2, r3, r4)) :
  Calls Tryz.prog 142 #[.string a0, .string a1] w fun e w' => ∃ v0_ v1_ v2_ : Value, e = .returned (.tuple #[.agg #[v0_, v1_, v2_], .bool r4]) ∧ Kd.R k69 69 w' w.heap.size (fun _ => True) v0_ r1 ∧ Kd.R Kd.string 9 w' w.heap.size (fun _ => True) v1_ r2 ∧ Kd.R k28 28 w' w.heap.size (fun k_ => some k_ ≠ (v0_ : Value).ownBlock ∧ some k_ ≠ (v1_ : Value).ownBlock) v2_ r3 ∧ Below w.heap.size w w' := by
 have hu28 := Tryz.underlying28
 have HB := ak (Below.refl w.heap.size w)
 have H : ((spec_l8RawMakeText.f k a0 a1).bind fun bt536 => ((spec_l13OwnPart.f k bt536.1 bt536.2.1 bt536.2.2.1).bind fun bt547 => (some (bt547.1, bt547.2.1, bt547.2.2, bt536.2.2.2)))) = some (r1, r2, r3, r4) := h
 clear h
 replace H := bd H
 obtain ⟨⟨t536, t539, t542, t545⟩, A3, H⟩ := H
 (try dsimp only at H)
 replace H := bd H
 obtain ⟨⟨t547, t550, t553⟩, A4, H⟩ := H
 (try dsimp only at H)
 obtain ⟨rfl, rfl, rfl, rfl⟩ := s4 H
 go_enter Tryz.func142, Tryz.ntmps142
 go_wp2_with (first | (refine bX HB 4 #[.slice none 0 0, .slice none 0 0, .slice none 0 0] 28 ?_; intro gb535 w5 BK535 GW535 hb; replace HB := bs HB hb; clear hb) | (refine gL 167 11 Tryz.func167 #[.string a0, .string a1] ?_; (with_reducible refine (spec_l8RawMakeText.calls A3.out).mono ?_); rintro e w6 ⟨v537, v540, v543, rfl, ho0, ho1, ho2, hb⟩; refine ⟨_, rfl, ?_⟩; have HO538 := ak (Kd.R_lower ho0 (below_size bb)); have HO541 := ak (Kd.R_lower ho1 (below_size bb)); have HO544 := ak (Kd.R_lower (Kd.R_newB ho2 (g := gb535) (o := .cells #[.slice none 0 0, .slice none 0 0, .slice none 0 0] 28 (0, 0)) (ub BK535.out)) (below_size bb)); replace BK535 := kb BK535 hb; replace HB := bz HB hb; clear hb; (try clear ho0); (try clear ho1); (try clear ho2)) | (refine bY HB 6 #[.slice none 0 0, .slice none 0 0, .slice none 0 0] 28 ?_; intro gb546 w7 BK546 GW546 hg hb; have NB535_546 := nl_ BK535 hg; have NB546_535 := ng_ BK535 hg; replace HO538 := rb HO538 hb; replace HO541 := rb HO541 hb; replace HO544 := ak (Kd.R_below (Kd.R_elderB (ur HO544.out) gb546 (Nat.le_of_eq hg.symm)) hb); replace BK535 := kb BK535 hb; replace HB := bz HB hb; clear hb hg; obtain ⟨Ao8, co8, eo8⟩ := Kd.R_slice HO538.out; subst eo8; have hnb9 := NB546_535.out; have hnc9 := NB535_546.out; have z10 := cz3 BK546.out; obtain ⟨Ao11, co11, eo11⟩ := Kd.R_slice HO541.out; subst eo11; obtain ⟨Ao12, co12, eo12⟩ := Kd.R_slice HO544.out; subst eo12) | (refine gL 61 15 Tryz.func61 #[.agg #[.slice Ao8 t536.length co8, .slice Ao11 t539.length co11, .slice Ao12 t542.length co12]] ?_; (with_reducible refine (spec_l13OwnPart.calls ?side1 ((Kd.R_reads' HO538.out).2.1) ?side3 ((Kd.R_reads' HO541.out).2.1) ?side5 ((Kd.R_reads' HO544.out).2.1) A4.out).mono ?_); (case side1 => refine (Kd.R_reads' (e := 69) (base := w.heap.size) (ok := fun k_ => True) (n := t536.length) (c := co8) ?_).2.2; exact (rh HO538)); (case side3 => refine (Kd.R_reads' (e := 9) (base := w.heap.size) (ok := fun k_ => True) (n := t539.length) (c := co11) ?_).2.2; exact (rh HO541)); (case side5 => refine (Kd.R_reads' (e := 28) (base := w.heap.size) (ok := fun k_ => (((some k_ ≠ (.slice Ao8 t536.length co8 : Value).ownBlock ∧ some k_ ≠ (.slice Ao11 t539.length co11 : Value).ownBlock) ∧ k_ ≠ gb535) ∧ k_ ≠ gb546)) (n := t542.length) (c := co12) ?_).2.2; exact (ur (Kd.R_mono (Kd.R_far (p := ⟨gb546, 2, none⟩) (Kd.R_far (p := ⟨gb546, 1, none⟩) (Kd.R_far (p := ⟨gb546, 0, none⟩) (Kd.R_mono HO544.out (fun k_ hk => (⟨hk, hk.2⟩ : _ ∧ k_ ≠ gb546))) (fun _ hk => hk.2) (.slice Ao8 t536.length co8)) (fun _ hk => hk.2) (.slice Ao11 t539.length co11)) (fun _ hk => hk.2) (.slice Ao12 t542.length co12)) (fun _ h_ => h_.1)))); rintro e w13 ⟨v548, v551, v554, rfl, ho0, ho1, ho2, hb⟩; refine ⟨_, rfl, ?_⟩; have HO549 := ak (Kd.R_lower (Kd.R_new' ho0 (Kd.R_lt (rh HO538))) (below_size bb)); have HO552 := ak (Kd.R_lower (Kd.R_new' ho1 (Kd.R_lt (rh HO541))) (below_size bb)); have HO555 := ak (Kd.R_lower (Kd.R_newB (Kd.R_newB (Kd.R_new' (Kd.R_new' (Kd.R_new' ho2 (Kd.R_lt (rh HO538))) (Kd.R_lt (rh HO541))) (Kd.R_lt (ur (Kd.R_mono (Kd.R_far (p := ⟨gb546, 2, none⟩) (Kd.R_far (p := ⟨gb546, 1, none⟩) (Kd.R_far (p := ⟨gb546, 0, none⟩) (Kd.R_mono HO544.out (fun k_ hk => (⟨hk, hk.2⟩ : _ ∧ k_ ≠ gb546))) (fun _ hk => hk.2) (.slice Ao8 t536.length co8)) (fun _ hk => hk.2) (.slice Ao11 t539.length co11)) (fun _ hk => hk.2) (.slice Ao12 t542.length co12)) (fun _ h_ => h_.1))))) (g := gb535) (o := .cells #[.slice none 0 0, .slice none 0 0, .slice none 0 0] 28 (0, 0)) bq) (g := gb546) (o := .cells #[.slice Ao8 t536.length co8, .slice Ao11 t539.length co11, .slice Ao12 t542.length co12] 28 (0, 0)) bq) (below_size bb)); replace HO538 := ak (Kd.R_elder' (rh HO538) (Kd.R_base ho0) hb); replace HO541 := ak (Kd.R_elder' (rh HO541) (Kd.R_base ho1) hb); replace HO544 := ak (Kd.R_mono (Kd.R_told (Kd.R_told (Kd.R_told (Kd.R_old (ur (Kd.R_mono (Kd.R_far (p := ⟨gb546, 2, none⟩) (Kd.R_far (p := ⟨gb546, 1, none⟩) (Kd.R_far (p := ⟨gb546, 0, none⟩) (Kd.R_mono HO544.out (fun k_ hk => (⟨hk, hk.2⟩ : _ ∧ k_ ≠ gb546))) (fun _ hk => hk.2) (.slice Ao8 t536.length co8)) (fun _ hk => hk.2) (.slice Ao11 t539.length co11)) (fun _ hk => hk.2) (.slice Ao12 t542.length co12)) (fun _ h_ => h_.1))) hb) (Kd.R_base ho0)) (Kd.R_base ho1)) (Kd.R_base ho2)) (fun _ h_ => h_.1)); replace BK535 := kp BK535 #[.slice none 0 0, .slice none 0 0, .slice none 0 0] hb; replace BK546 := kp BK546 #[.slice Ao8 t536.length co8, .slice Ao11 t539.length co11, .slice Ao12 t542.length co12] hb; replace HB := bz HB hb; clear hb; (try clear ho0); (try clear ho1); (try clear ho2); obtain ⟨Ao14, co14, eo14⟩ := Kd.R_slice HO549.out; subst eo14; have z15 := cz3 BK535.out; obtain ⟨Ao16, co16, eo16⟩ := Kd.R_slice HO552.out; subst eo16; obtain ⟨Ao17, co17, eo17⟩ := Kd.R_slice HO555.out; subst eo17))
 refine bodyPost_ret (results_ct rfl _ _ gb535 28 #[.slice Ao14 t547.length co14, .slice Ao16 t550.length co16, .slice Ao17 t553.length co17] (0, 0) _ rfl bq Tryz.underlying28 rfl (by kernel_rfl)) rfl ?_
 exact ⟨_, _, _, er, rr, rr, rr, bb⟩
mutual
def spec_l5Draw.l0 : Nat → ByteArray → Int → List Int → Int → Option (ByteArray × Int)
 | 0, _, _, _, _ => none
 | k + 1, x3, x4, x1000, x1001 => if x4 > 0 then ((spec_l13Rd_of.f k x1000 x1001 (([(⟨#[104, 101, 108, 108, 111]⟩ : ByteArray), (⟨#[32]⟩ : ByteArray), (⟨#[61]⟩ : ByteArray), (⟨#[10]⟩ : ByteArray), (⟨#[255, 0]⟩ : ByteArray), (⟨#[99, 97, 102, 195, 169]⟩ : ByteArray), (⟨#[97, 32, 108, 111, 110, 103, 101, 114, 32, 114, 111, 119, 32, 111, 102, 32, 119, 111, 114, 100, 115, 32, 116, 104, 97, 116, 32, 105, 115, 32, 98, 114, 111, 107, 101, 110, 32, 104, 101, 114, 101]⟩ : ByteArray), (⟨#[120]⟩ : ByteArray), (⟨#[46]⟩ : ByteArray), (⟨#[9]⟩ : ByteArray)] : List ByteArray))).bind fun bt564 => (if x3.size + bt564.1.size ≤ 9223372036854775807 then (spec_l5Draw.l0 k (x3 ++ bt564.1) (wrap64 (x4 - 1)) x1000 bt564.2) else (none))) else ((spec_l13Rd_pick.f k x1000 x1001 40).bind fun bt566 => (if bt566.1 = 0 then (spec_l5Draw.l1 k x3 x1000 bt566.2) else (some (x3, bt566.2))))
def spec_l5Draw.l1 : Nat → ByteArray → List Int → Int → Option (ByteArray × Int)
 | 0, _, _, _ => none
 | k + 1, x3, x1000, x1001 => if (x3.size : Int) ≤ 300 then (if x3.size + 10 ≤ 9223372036854775807 then (spec_l5Draw.l1 k (x3 ++ (⟨#[48, 49, 50, 51, 52, 53, 54, 55, 56, 57]⟩ : ByteArray)) x1000 x1001) else (none)) else (some (x3, x1001))
end
def spec_l5Draw.f (k : Nat) (s0_0 : List Int) (s0_1 : Int) : Option (ByteArray × Int) := (spec_l13Rd_num.f k s0_0 s0_1 (([3, 2, 5, 1, 0, 8] : List Int))).bind fun bt559 => (spec_l5Draw.l0 k (⟨#[]⟩ : ByteArray) bt559.1 s0_0 bt559.2)
theorem spec_l5Draw.calls {k g : Nat} {s0_0 : List Int} {s0_1 r2 : Int} {r1 : ByteArray} {w : World} (w0 : World) (hI : IsS109 w0 w g s0_0 s0_1) (hB : Below w0.heap.size w0 w) (h : spec_l5Draw.f k s0_0 s0_1 = some (r1, r2)) :
  Calls Tryz.prog 143 #[.pointer (some ⟨g, 0, none⟩)] w fun e w' => e = .returned (.string r1) ∧ IsS109 w0 w' g s0_0 r2 ∧ Below w0.heap.size w0 w' ∧ KeepBut w w' g none := by
 have HI0 := ak hI
 have HK := ak (KeepBut.refl w g none)
 have HL := ak hB.size
 clear hI
 have HW0 := ak hB.size
 have HB := ak hB
 clear hB
 have H : ((spec_l13Rd_num.f k s0_0 s0_1 (([3, 2, 5, 1, 0, 8] : List Int))).bind fun bt559 => (spec_l5Draw.l0 k (⟨#[]⟩ : ByteArray) bt559.1 s0_0 bt559.2)) = some (r1, r2) := h
 clear h
 obtain ⟨y556, Ny556⟩ := nm ([3, 2, 5, 1, 0, 8] : List Int)
 rw [← Ny556.out] at H
 replace H := bd H
 obtain ⟨⟨t559, t560⟩, A2, H⟩ := H
 (try dsimp only at H)
 have H' := ak H; clear H
 go_enter Tryz.func143, Tryz.ntmps143
 go_wp2_with (first | (refine lRM 6 (Kd.int .i64) 3 [.int .i64 3, .int .i64 2, .int .i64 5, .int .i64 1, .int .i64 0, .int .i64 8] Ny556 (Reps.one (show Kd.M (Kd.int .i64) _ _ _ 3 [.int .i64 3] from rfl) (Reps.one (show Kd.M (Kd.int .i64) _ _ _ 2 [.int .i64 2] from rfl) (Reps.one (show Kd.M (Kd.int .i64) _ _ _ 5 [.int .i64 5] from rfl) (Reps.one (show Kd.M (Kd.int .i64) _ _ _ 1 [.int .i64 1] from rfl) (Reps.one (show Kd.M (Kd.int .i64) _ _ _ 0 [.int .i64 0] from rfl) (Reps.one (show Kd.M (Kd.int .i64) _ _ _ 8 [.int .i64 8] from rfl) (Reps.none _ _))))))) ?_; intro v557 w3 ho4 hb; have HO558 := ak (Kd.R_lower ho4 (keep_size (w := w) (g := g) (row := none) (kh HK.out))); replace HK := ak (KeepBut.trans (kh HK.out) (KeepBut.of_below hb g none) (.inl rfl)); replace HB := ak (below_step bi_ hb); replace HI0 := ak (IsS109.below is_ hb); clear hb ho4; obtain ⟨Ao5, co5, eo5⟩ := Kd.R_slice HO558.out; subst eo5) | (refine gL 97 7 Tryz.func97 #[.pointer (some ⟨g, 0, none⟩), .slice Ao5 y556.length co5] ?_; (with_reducible refine (spec_l13Rd_num.calls w0 ?side1 ?side2 (cu ((Kd.R_reads' HO558.out).2.2)) ((Kd.R_reads' HO558.out).2.1) (far_slice (IsS109.own_ne HI0.out HO558.out (by decide))) A2.out).mono ?_); (case side1 => exact is_); (case side2 => exact bi_); rintro e w6 ⟨rfl, hi, hb, hk⟩; refine ⟨_, rfl, ?_⟩; replace HO558 := ki HO558 hk; replace HK := kt HK hk; replace HB := ak (hb); replace HI0 := ak (hi); clear hb; (try clear hk); (try clear hi)))
 go_loopg [3, 4] k (fun kq v3 v4 w' => ∃ (x3_1 : ByteArray) (x4_1 : Int) (x1001_1 : Int), v3 = .string x3_1 ∧ v4 = .int .i64 x4_1 ∧ Aside0 (spec_l5Draw.l0 kq x3_1 x4_1 s0_0 x1001_1 = some (r1, r2)) ∧ Aside0 (kq ≤ k) ∧ Aside0 (IsS109 w0 w' g s0_0 x1001_1) ∧ Aside0 (KeepBut w w' g none) ∧ Aside0 (Below w0.heap.size w0 w'))
 case atStart => exact ⟨_, _, _, rs, rs, H', ⟨Nat.le_refl _⟩, ⟨is_⟩, ⟨kh HK.out⟩, ⟨bi_⟩⟩
 case round =>
  clear H'
  obtain ⟨x3_1, x4_1, x1001_1, rfl, rfl, HA, HK1, HI0, HK, HB⟩ := hrel
  cases gk with
  | zero => exact zz HA.out
  | succ k1 =>
   obtain ⟨H⟩ := HA
   simp only [spec_l5Draw.l0] at H
   replace H := sp H
   rcases H with ⟨c7, H⟩ | ⟨c7, H⟩
   ·
    have c7b0 : decide (0 < x4_1) = true := decide_eq_true c7
    clear c7
    obtain ⟨y561, Ny561⟩ := nm ([(⟨#[104, 101, 108, 108, 111]⟩ : ByteArray), (⟨#[32]⟩ : ByteArray), (⟨#[61]⟩ : ByteArray), (⟨#[10]⟩ : ByteArray), (⟨#[255, 0]⟩ : ByteArray), (⟨#[99, 97, 102, 195, 169]⟩ : ByteArray), (⟨#[97, 32, 108, 111, 110, 103, 101, 114, 32, 114, 111, 119, 32, 111, 102, 32, 119, 111, 114, 100, 115, 32, 116, 104, 97, 116, 32, 105, 115, 32, 98, 114, 111, 107, 101, 110, 32, 104, 101, 114, 101]⟩ : ByteArray), (⟨#[120]⟩ : ByteArray), (⟨#[46]⟩ : ByteArray), (⟨#[9]⟩ : ByteArray)] : List ByteArray)
    rw [← Ny561.out] at H
    replace H := bd H
    obtain ⟨⟨t564, t565⟩, A8, H⟩ := H
    (try dsimp only at H)
    replace H := nn H; obtain ⟨c9, H⟩ := H
    have c9b0 := eq_true c9
    have c9b1 := decide_eq_true c9
    try have c9b2 : (9223372036854775807 < x3_1.size + t564.size) = False := eq_false (Nat.not_lt.2 c9)
    have H' := ak H; clear H
    go_wp2_with (first | (refine lRM 14 Kd.string 9 [.string (⟨#[104, 101, 108, 108, 111]⟩ : ByteArray), .string (⟨#[32]⟩ : ByteArray), .string (⟨#[61]⟩ : ByteArray), .string (⟨#[10]⟩ : ByteArray), .string (⟨#[255, 0]⟩ : ByteArray), .string (⟨#[99, 97, 102, 195, 169]⟩ : ByteArray), .string (⟨#[97, 32, 108, 111, 110, 103, 101, 114, 32, 114, 111, 119, 32, 111, 102, 32, 119, 111, 114, 100, 115, 32, 116, 104, 97, 116, 32, 105, 115, 32, 98, 114, 111, 107, 101, 110, 32, 104, 101, 114, 101]⟩ : ByteArray), .string (⟨#[120]⟩ : ByteArray), .string (⟨#[46]⟩ : ByteArray), .string (⟨#[9]⟩ : ByteArray)] Ny561 (Reps.one (show Kd.M Kd.string _ _ _ (⟨#[104, 101, 108, 108, 111]⟩ : ByteArray) [.string (⟨#[104, 101, 108, 108, 111]⟩ : ByteArray)] from rfl) (Reps.one (show Kd.M Kd.string _ _ _ (⟨#[32]⟩ : ByteArray) [.string (⟨#[32]⟩ : ByteArray)] from rfl) (Reps.one (show Kd.M Kd.string _ _ _ (⟨#[61]⟩ : ByteArray) [.string (⟨#[61]⟩ : ByteArray)] from rfl) (Reps.one (show Kd.M Kd.string _ _ _ (⟨#[10]⟩ : ByteArray) [.string (⟨#[10]⟩ : ByteArray)] from rfl) (Reps.one (show Kd.M Kd.string _ _ _ (⟨#[255, 0]⟩ : ByteArray) [.string (⟨#[255, 0]⟩ : ByteArray)] from rfl) (Reps.one (show Kd.M Kd.string _ _ _ (⟨#[99, 97, 102, 195, 169]⟩ : ByteArray) [.string (⟨#[99, 97, 102, 195, 169]⟩ : ByteArray)] from rfl) (Reps.one (show Kd.M Kd.string _ _ _ (⟨#[97, 32, 108, 111, 110, 103, 101, 114, 32, 114, 111, 119, 32, 111, 102, 32, 119, 111, 114, 100, 115, 32, 116, 104, 97, 116, 32, 105, 115, 32, 98, 114, 111, 107, 101, 110, 32, 104, 101, 114, 101]⟩ : ByteArray) [.string (⟨#[97, 32, 108, 111, 110, 103, 101, 114, 32, 114, 111, 119, 32, 111, 102, 32, 119, 111, 114, 100, 115, 32, 116, 104, 97, 116, 32, 105, 115, 32, 98, 114, 111, 107, 101, 110, 32, 104, 101, 114, 101]⟩ : ByteArray)] from rfl) (Reps.one (show Kd.M Kd.string _ _ _ (⟨#[120]⟩ : ByteArray) [.string (⟨#[120]⟩ : ByteArray)] from rfl) (Reps.one (show Kd.M Kd.string _ _ _ (⟨#[46]⟩ : ByteArray) [.string (⟨#[46]⟩ : ByteArray)] from rfl) (Reps.one (show Kd.M Kd.string _ _ _ (⟨#[9]⟩ : ByteArray) [.string (⟨#[9]⟩ : ByteArray)] from rfl) (Reps.none _ _))))))))))) ?_; intro v562 w10 ho11 hb; have HO563 := ak (Kd.R_lower ho11 (keep_size (w := w) (g := g) (row := none) (kh HK.out))); replace HK := ak (KeepBut.trans (kh HK.out) (KeepBut.of_below hb g none) (.inl rfl)); replace HB := ak (below_step bi_ hb); replace HI0 := ak (IsS109.below is_ hb); clear hb ho11; obtain ⟨Ao12, co12, eo12⟩ := Kd.R_slice HO563.out; subst eo12) | (refine gL 58 15 Tryz.func58 #[.pointer (some ⟨g, 0, none⟩), .slice Ao12 y561.length co12] ?_; (with_reducible refine (spec_l13Rd_of.calls w0 ?side1 ?side2 (cu ((Kd.R_reads' HO563.out).2.2)) ((Kd.R_reads' HO563.out).2.1) (far_slice (IsS109.own_ne HI0.out HO563.out (by decide))) A8.out).mono ?_); (case side1 => exact is_); (case side2 => exact bi_); rintro e w13 ⟨rfl, hi, hb, hk⟩; refine ⟨_, rfl, ?_⟩; replace HO563 := ki HO563 hk; replace HK := kt HK hk; replace HB := ak (hb); replace HI0 := ak (hi); clear hb; (try clear hk); (try clear hi)))
    go_roundg k1
    case measure => exact kl
    case rel => exact ⟨_, _, _, rs, rs, H', ⟨kl⟩, ⟨is_⟩, ⟨kh HK.out⟩, ⟨bi_⟩⟩
   ·
    have c7b0 : decide (0 < x4_1) = false := decide_eq_false c7
    clear c7
    replace H := bd H
    obtain ⟨⟨t566, t567⟩, A14, H⟩ := H
    (try dsimp only at H)
    replace H := sq H
    rcases H with ⟨c15b0, c15b1, H⟩ | ⟨c15, c15b0, c15b1, H⟩
    ·
     have H' := ak H; clear H
     go_wp2_with (refine gL 57 18 Tryz.func57 #[.pointer (some ⟨g, 0, none⟩), .int .i64 40] ?_; (with_reducible refine (spec_l13Rd_pick.calls w0 ?side1 ?side2 A14.out).mono ?_); (case side1 => exact is_); (case side2 => exact bi_); rintro e w16 ⟨rfl, hi, hb, hk⟩; refine ⟨_, rfl, ?_⟩; replace HK := kt HK hk; replace HB := ak (hb); replace HI0 := ak (hi); clear hb; (try clear hk); (try clear hi))
     go_loopg [3] k1 (fun kq v3 w' => ∃ (x3_2 : ByteArray), v3 = .string x3_2 ∧ Aside0 (spec_l5Draw.l1 kq x3_2 s0_0 t567 = some (r1, r2)) ∧ Aside0 (kq ≤ k1) ∧ Aside0 (IsS109 w0 w' g s0_0 t567) ∧ Aside0 (KeepBut w w' g none) ∧ Aside0 (Below w0.heap.size w0 w'))
     case atStart => exact ⟨_, rs, H', ⟨Nat.le_refl _⟩, ⟨is_⟩, ⟨kh HK.out⟩, ⟨bi_⟩⟩
     case round =>
      clear H'
      try clear c7
      try clear c7b0
      try clear c15
      try clear c15b0
      try clear c15b1
      obtain ⟨x3_2, rfl, HA, HK2, HI0, HK, HB⟩ := hrel
      cases gk with
      | zero => exact zz HA.out
      | succ k2 =>
       obtain ⟨H⟩ := HA
       simp only [spec_l5Draw.l1] at H
       replace H := sp H
       rcases H with ⟨c17, H⟩ | ⟨c17, H⟩
       ·
        have c17b0 := decide_eq_true c17
        have c17b1 : decide (x3_2.size ≤ 300) = true := decide_eq_true (by omega)
        clear c17
        replace H := nn H; obtain ⟨c18, H⟩ := H
        have c18b0 := eq_true c18
        have c18b1 := decide_eq_true c18
        try have c18b2 : (9223372036854775807 < x3_2.size + 10) = False := eq_false (Nat.not_lt.2 c18)
        have H' := ak H; clear H
        go_wp2
        go_roundg k2
        case measure => exact kl
        case rel => exact ⟨_, rs, H', ⟨kl⟩, ⟨is_⟩, ⟨kh HK.out⟩, ⟨bi_⟩⟩
       ·
        have c17b0 := decide_eq_false c17
        have c17b1 : decide (x3_2.size ≤ 300) = false := decide_eq_false (by omega)
        clear c17
        obtain ⟨rfl, rfl⟩ := s2 H
        go_wp2
        go_ret
        exact ⟨er, is_, bi_, kh HK.out⟩
    ·
     obtain ⟨rfl, rfl⟩ := s2 H
     go_wp2_with (refine gL 57 18 Tryz.func57 #[.pointer (some ⟨g, 0, none⟩), .int .i64 40] ?_; (with_reducible refine (spec_l13Rd_pick.calls w0 ?side1 ?side2 A14.out).mono ?_); (case side1 => exact is_); (case side2 => exact bi_); rintro e w19 ⟨rfl, hi, hb, hk⟩; refine ⟨_, rfl, ?_⟩; replace HK := kt HK hk; replace HB := ak (hb); replace HI0 := ak (hi); clear hb; (try clear hk); (try clear hi))
     go_ret
     exact ⟨er, is_, bi_, kh HK.out⟩
def spec_l3Draw.f (k : Nat) (s0_0 : List Int) (s0_1 : Int) : Option (ByteArray × ByteArray × Int) := (spec_l13Rd_of.f k s0_0 s0_1 (([(⟨#[84, 111]⟩ : ByteArray), (⟨#[70, 114, 111, 109]⟩ : ByteArray), (⟨#[83, 117, 98, 106, 101, 99, 116]⟩ : ByteArray), (⟨#[88, 45, 89]⟩ : ByteArray), (⟨#[82, 101, 99, 101, 105, 118, 101, 100]⟩ : ByteArray), (⟨#[116, 111]⟩ : ByteArray), (⟨#[68, 97, 116, 101]⟩ : ByteArray)] : List ByteArray))).bind fun bt572 => ((spec_l13Rd_of.f k s0_0 bt572.2 (([(⟨#[]⟩ : ByteArray), (⟨#[120]⟩ : ByteArray), (⟨#[97, 32, 98]⟩ : ByteArray), (⟨#[104, 101, 108, 108, 111, 32, 116, 104, 101, 114, 101, 44, 32, 116, 104, 105, 115, 32, 105, 115, 32, 97, 32, 108, 111, 110, 103, 101, 114, 32, 118, 97, 108, 117, 101, 32, 116, 104, 97, 116, 32, 105, 115, 32, 98, 114, 111, 107, 101, 110]⟩ : ByteArray), (⟨#[97, 97, 97, 97, 97, 97, 97, 97, 97, 97, 97, 97, 97, 97, 97, 97, 97, 97, 97, 97, 97, 97, 97, 97, 97, 97, 97, 97, 97, 97, 97, 97, 97, 97, 97, 97, 97, 97, 97, 97, 97, 97, 97, 97, 97, 97, 97, 97, 97, 97, 97, 32, 98]⟩ : ByteArray), (⟨#[116, 119, 111, 32, 32, 115, 112, 97, 99, 101, 115, 32, 115, 116, 97, 121, 32, 32, 116, 111, 103, 101, 116, 104, 101, 114, 32, 105, 110, 32, 104, 101, 114, 101, 44, 32, 97, 110, 100, 32, 115, 111, 32, 100, 111, 32, 116, 104, 101, 115, 101, 32, 32, 111, 110, 101, 115]⟩ : ByteArray), (⟨#[97, 58, 98]⟩ : ByteArray), (⟨#[111, 110, 101, 32, 116, 119, 111, 32, 116, 104, 114, 101, 101, 32, 102, 111, 117, 114, 32, 102, 105, 118, 101, 32, 115, 105, 120, 32, 115, 101, 118, 101, 110, 32, 101, 105, 103, 104, 116, 32, 110, 105, 110, 101, 32, 116, 101, 110, 32, 101, 108, 101, 118, 101, 110]⟩ : ByteArray)] : List ByteArray))).bind fun bt577 => (some (bt572.1, bt577.1, bt577.2)))
theorem spec_l3Draw.calls {k g : Nat} {s0_0 : List Int} {s0_1 r3 : Int} {r1 r2 : ByteArray} {w : World} (w0 : World) (hI : IsS109 w0 w g s0_0 s0_1) (hB : Below w0.heap.size w0 w) (h : spec_l3Draw.f k s0_0 s0_1 = some (r1, r2, r3)) :
  Calls Tryz.prog 168 #[.pointer (some ⟨g, 0, none⟩)] w fun e w' => e = .returned (.agg #[.string r1, .string r2]) ∧ IsS109 w0 w' g s0_0 r3 ∧ Below w0.heap.size w0 w' ∧ KeepBut w w' g none := by
 have hu69 := Tryz.underlying69
 have HI0 := ak hI
 have HK := ak (KeepBut.refl w g none)
 have HL := ak hB.size
 clear hI
 have HW0 := ak hB.size
 have HB := ak hB
 clear hB
 have H : ((spec_l13Rd_of.f k s0_0 s0_1 (([(⟨#[84, 111]⟩ : ByteArray), (⟨#[70, 114, 111, 109]⟩ : ByteArray), (⟨#[83, 117, 98, 106, 101, 99, 116]⟩ : ByteArray), (⟨#[88, 45, 89]⟩ : ByteArray), (⟨#[82, 101, 99, 101, 105, 118, 101, 100]⟩ : ByteArray), (⟨#[116, 111]⟩ : ByteArray), (⟨#[68, 97, 116, 101]⟩ : ByteArray)] : List ByteArray))).bind fun bt572 => ((spec_l13Rd_of.f k s0_0 bt572.2 (([(⟨#[]⟩ : ByteArray), (⟨#[120]⟩ : ByteArray), (⟨#[97, 32, 98]⟩ : ByteArray), (⟨#[104, 101, 108, 108, 111, 32, 116, 104, 101, 114, 101, 44, 32, 116, 104, 105, 115, 32, 105, 115, 32, 97, 32, 108, 111, 110, 103, 101, 114, 32, 118, 97, 108, 117, 101, 32, 116, 104, 97, 116, 32, 105, 115, 32, 98, 114, 111, 107, 101, 110]⟩ : ByteArray), (⟨#[97, 97, 97, 97, 97, 97, 97, 97, 97, 97, 97, 97, 97, 97, 97, 97, 97, 97, 97, 97, 97, 97, 97, 97, 97, 97, 97, 97, 97, 97, 97, 97, 97, 97, 97, 97, 97, 97, 97, 97, 97, 97, 97, 97, 97, 97, 97, 97, 97, 97, 97, 32, 98]⟩ : ByteArray), (⟨#[116, 119, 111, 32, 32, 115, 112, 97, 99, 101, 115, 32, 115, 116, 97, 121, 32, 32, 116, 111, 103, 101, 116, 104, 101, 114, 32, 105, 110, 32, 104, 101, 114, 101, 44, 32, 97, 110, 100, 32, 115, 111, 32, 100, 111, 32, 116, 104, 101, 115, 101, 32, 32, 111, 110, 101, 115]⟩ : ByteArray), (⟨#[97, 58, 98]⟩ : ByteArray), (⟨#[111, 110, 101, 32, 116, 119, 111, 32, 116, 104, 114, 101, 101, 32, 102, 111, 117, 114, 32, 102, 105, 118, 101, 32, 115, 105, 120, 32, 115, 101, 118, 101, 110, 32, 101, 105, 103, 104, 116, 32, 110, 105, 110, 101, 32, 116, 101, 110, 32, 101, 108, 101, 118, 101, 110]⟩ : ByteArray)] : List ByteArray))).bind fun bt577 => (some (bt572.1, bt577.1, bt577.2)))) = some (r1, r2, r3) := h
 clear h
 obtain ⟨y569, Ny569⟩ := nm ([(⟨#[84, 111]⟩ : ByteArray), (⟨#[70, 114, 111, 109]⟩ : ByteArray), (⟨#[83, 117, 98, 106, 101, 99, 116]⟩ : ByteArray), (⟨#[88, 45, 89]⟩ : ByteArray), (⟨#[82, 101, 99, 101, 105, 118, 101, 100]⟩ : ByteArray), (⟨#[116, 111]⟩ : ByteArray), (⟨#[68, 97, 116, 101]⟩ : ByteArray)] : List ByteArray)
 rw [← Ny569.out] at H
 replace H := bd H
 obtain ⟨⟨t572, t573⟩, A2, H⟩ := H
 (try dsimp only at H)
 obtain ⟨y574, Ny574⟩ := nm ([(⟨#[]⟩ : ByteArray), (⟨#[120]⟩ : ByteArray), (⟨#[97, 32, 98]⟩ : ByteArray), (⟨#[104, 101, 108, 108, 111, 32, 116, 104, 101, 114, 101, 44, 32, 116, 104, 105, 115, 32, 105, 115, 32, 97, 32, 108, 111, 110, 103, 101, 114, 32, 118, 97, 108, 117, 101, 32, 116, 104, 97, 116, 32, 105, 115, 32, 98, 114, 111, 107, 101, 110]⟩ : ByteArray), (⟨#[97, 97, 97, 97, 97, 97, 97, 97, 97, 97, 97, 97, 97, 97, 97, 97, 97, 97, 97, 97, 97, 97, 97, 97, 97, 97, 97, 97, 97, 97, 97, 97, 97, 97, 97, 97, 97, 97, 97, 97, 97, 97, 97, 97, 97, 97, 97, 97, 97, 97, 97, 32, 98]⟩ : ByteArray), (⟨#[116, 119, 111, 32, 32, 115, 112, 97, 99, 101, 115, 32, 115, 116, 97, 121, 32, 32, 116, 111, 103, 101, 116, 104, 101, 114, 32, 105, 110, 32, 104, 101, 114, 101, 44, 32, 97, 110, 100, 32, 115, 111, 32, 100, 111, 32, 116, 104, 101, 115, 101, 32, 32, 111, 110, 101, 115]⟩ : ByteArray), (⟨#[97, 58, 98]⟩ : ByteArray), (⟨#[111, 110, 101, 32, 116, 119, 111, 32, 116, 104, 114, 101, 101, 32, 102, 111, 117, 114, 32, 102, 105, 118, 101, 32, 115, 105, 120, 32, 115, 101, 118, 101, 110, 32, 101, 105, 103, 104, 116, 32, 110, 105, 110, 101, 32, 116, 101, 110, 32, 101, 108, 101, 118, 101, 110]⟩ : ByteArray)] : List ByteArray)
 rw [← Ny574.out] at H
 replace H := bd H
 obtain ⟨⟨t577, t578⟩, A3, H⟩ := H
 (try dsimp only at H)
 obtain ⟨rfl, rfl, rfl⟩ := s3 H
 go_enter Tryz.func168, Tryz.ntmps168
 go_wp2_with (first | (refine bS HI0 HK HB HW0 2 #[.string (⟨#[]⟩ : ByteArray), .string (⟨#[]⟩ : ByteArray)] 69 ?_; clear HI0 HK HB; intro gb568 w4 BK568 GW568 GE568 NB0_568 NB568_0 hg hb HI0 HK HB; clear hb hg) | (refine lRM 4 Kd.string 9 [.string (⟨#[84, 111]⟩ : ByteArray), .string (⟨#[70, 114, 111, 109]⟩ : ByteArray), .string (⟨#[83, 117, 98, 106, 101, 99, 116]⟩ : ByteArray), .string (⟨#[88, 45, 89]⟩ : ByteArray), .string (⟨#[82, 101, 99, 101, 105, 118, 101, 100]⟩ : ByteArray), .string (⟨#[116, 111]⟩ : ByteArray), .string (⟨#[68, 97, 116, 101]⟩ : ByteArray)] Ny569 (Reps.one (show Kd.M Kd.string _ _ _ (⟨#[84, 111]⟩ : ByteArray) [.string (⟨#[84, 111]⟩ : ByteArray)] from rfl) (Reps.one (show Kd.M Kd.string _ _ _ (⟨#[70, 114, 111, 109]⟩ : ByteArray) [.string (⟨#[70, 114, 111, 109]⟩ : ByteArray)] from rfl) (Reps.one (show Kd.M Kd.string _ _ _ (⟨#[83, 117, 98, 106, 101, 99, 116]⟩ : ByteArray) [.string (⟨#[83, 117, 98, 106, 101, 99, 116]⟩ : ByteArray)] from rfl) (Reps.one (show Kd.M Kd.string _ _ _ (⟨#[88, 45, 89]⟩ : ByteArray) [.string (⟨#[88, 45, 89]⟩ : ByteArray)] from rfl) (Reps.one (show Kd.M Kd.string _ _ _ (⟨#[82, 101, 99, 101, 105, 118, 101, 100]⟩ : ByteArray) [.string (⟨#[82, 101, 99, 101, 105, 118, 101, 100]⟩ : ByteArray)] from rfl) (Reps.one (show Kd.M Kd.string _ _ _ (⟨#[116, 111]⟩ : ByteArray) [.string (⟨#[116, 111]⟩ : ByteArray)] from rfl) (Reps.one (show Kd.M Kd.string _ _ _ (⟨#[68, 97, 116, 101]⟩ : ByteArray) [.string (⟨#[68, 97, 116, 101]⟩ : ByteArray)] from rfl) (Reps.none _ _)))))))) ?_; intro v570 w5 ho6 hb; have HO571 := ak (Kd.R_lower ho6 (keep_size (w := w) (g := g) (row := none) (kh HK.out))); replace BK568 := kb BK568 hb; replace HK := ak (KeepBut.trans (kh HK.out) (KeepBut.of_below hb g none) (.inl rfl)); replace HB := ak (below_step bi_ hb); replace HI0 := ak (IsS109.below is_ hb); clear hb ho6; obtain ⟨Ao7, co7, eo7⟩ := Kd.R_slice HO571.out; subst eo7) | (refine gL 58 5 Tryz.func58 #[.pointer (some ⟨g, 0, none⟩), .slice Ao7 y569.length co7] ?_; (with_reducible refine (spec_l13Rd_of.calls w0 ?side1 ?side2 (cu ((Kd.R_reads' HO571.out).2.2)) ((Kd.R_reads' HO571.out).2.1) (far_slice (IsS109.own_ne HI0.out HO571.out (by decide))) A2.out).mono ?_); (case side1 => exact is_); (case side2 => exact bi_); rintro e w8 ⟨rfl, hi, hb, hk⟩; refine ⟨_, rfl, ?_⟩; replace BK568 := kc BK568 hk NB568_0; replace HO571 := ki HO571 hk; replace HK := kt HK hk; replace HB := ak (hb); replace HI0 := ak (hi); clear hb; (try clear hk); (try clear hi)) | (refine lRM 7 Kd.string 9 [.string (⟨#[]⟩ : ByteArray), .string (⟨#[120]⟩ : ByteArray), .string (⟨#[97, 32, 98]⟩ : ByteArray), .string (⟨#[104, 101, 108, 108, 111, 32, 116, 104, 101, 114, 101, 44, 32, 116, 104, 105, 115, 32, 105, 115, 32, 97, 32, 108, 111, 110, 103, 101, 114, 32, 118, 97, 108, 117, 101, 32, 116, 104, 97, 116, 32, 105, 115, 32, 98, 114, 111, 107, 101, 110]⟩ : ByteArray), .string (⟨#[97, 97, 97, 97, 97, 97, 97, 97, 97, 97, 97, 97, 97, 97, 97, 97, 97, 97, 97, 97, 97, 97, 97, 97, 97, 97, 97, 97, 97, 97, 97, 97, 97, 97, 97, 97, 97, 97, 97, 97, 97, 97, 97, 97, 97, 97, 97, 97, 97, 97, 97, 32, 98]⟩ : ByteArray), .string (⟨#[116, 119, 111, 32, 32, 115, 112, 97, 99, 101, 115, 32, 115, 116, 97, 121, 32, 32, 116, 111, 103, 101, 116, 104, 101, 114, 32, 105, 110, 32, 104, 101, 114, 101, 44, 32, 97, 110, 100, 32, 115, 111, 32, 100, 111, 32, 116, 104, 101, 115, 101, 32, 32, 111, 110, 101, 115]⟩ : ByteArray), .string (⟨#[97, 58, 98]⟩ : ByteArray), .string (⟨#[111, 110, 101, 32, 116, 119, 111, 32, 116, 104, 114, 101, 101, 32, 102, 111, 117, 114, 32, 102, 105, 118, 101, 32, 115, 105, 120, 32, 115, 101, 118, 101, 110, 32, 101, 105, 103, 104, 116, 32, 110, 105, 110, 101, 32, 116, 101, 110, 32, 101, 108, 101, 118, 101, 110]⟩ : ByteArray)] Ny574 (Reps.one (show Kd.M Kd.string _ _ _ (⟨#[]⟩ : ByteArray) [.string (⟨#[]⟩ : ByteArray)] from rfl) (Reps.one (show Kd.M Kd.string _ _ _ (⟨#[120]⟩ : ByteArray) [.string (⟨#[120]⟩ : ByteArray)] from rfl) (Reps.one (show Kd.M Kd.string _ _ _ (⟨#[97, 32, 98]⟩ : ByteArray) [.string (⟨#[97, 32, 98]⟩ : ByteArray)] from rfl) (Reps.one (show Kd.M Kd.string _ _ _ (⟨#[104, 101, 108, 108, 111, 32, 116, 104, 101, 114, 101, 44, 32, 116, 104, 105, 115, 32, 105, 115, 32, 97, 32, 108, 111, 110, 103, 101, 114, 32, 118, 97, 108, 117, 101, 32, 116, 104, 97, 116, 32, 105, 115, 32, 98, 114, 111, 107, 101, 110]⟩ : ByteArray) [.string (⟨#[104, 101, 108, 108, 111, 32, 116, 104, 101, 114, 101, 44, 32, 116, 104, 105, 115, 32, 105, 115, 32, 97, 32, 108, 111, 110, 103, 101, 114, 32, 118, 97, 108, 117, 101, 32, 116, 104, 97, 116, 32, 105, 115, 32, 98, 114, 111, 107, 101, 110]⟩ : ByteArray)] from rfl) (Reps.one (show Kd.M Kd.string _ _ _ (⟨#[97, 97, 97, 97, 97, 97, 97, 97, 97, 97, 97, 97, 97, 97, 97, 97, 97, 97, 97, 97, 97, 97, 97, 97, 97, 97, 97, 97, 97, 97, 97, 97, 97, 97, 97, 97, 97, 97, 97, 97, 97, 97, 97, 97, 97, 97, 97, 97, 97, 97, 97, 32, 98]⟩ : ByteArray) [.string (⟨#[97, 97, 97, 97, 97, 97, 97, 97, 97, 97, 97, 97, 97, 97, 97, 97, 97, 97, 97, 97, 97, 97, 97, 97, 97, 97, 97, 97, 97, 97, 97, 97, 97, 97, 97, 97, 97, 97, 97, 97, 97, 97, 97, 97, 97, 97, 97, 97, 97, 97, 97, 32, 98]⟩ : ByteArray)] from rfl) (Reps.one (show Kd.M Kd.string _ _ _ (⟨#[116, 119, 111, 32, 32, 115, 112, 97, 99, 101, 115, 32, 115, 116, 97, 121, 32, 32, 116, 111, 103, 101, 116, 104, 101, 114, 32, 105, 110, 32, 104, 101, 114, 101, 44, 32, 97, 110, 100, 32, 115, 111, 32, 100, 111, 32, 116, 104, 101, 115, 101, 32, 32, 111, 110, 101, 115]⟩ : ByteArray) [.string (⟨#[116, 119, 111, 32, 32, 115, 112, 97, 99, 101, 115, 32, 115, 116, 97, 121, 32, 32, 116, 111, 103, 101, 116, 104, 101, 114, 32, 105, 110, 32, 104, 101, 114, 101, 44, 32, 97, 110, 100, 32, 115, 111, 32, 100, 111, 32, 116, 104, 101, 115, 101, 32, 32, 111, 110, 101, 115]⟩ : ByteArray)] from rfl) (Reps.one (show Kd.M Kd.string _ _ _ (⟨#[97, 58, 98]⟩ : ByteArray) [.string (⟨#[97, 58, 98]⟩ : ByteArray)] from rfl) (Reps.one (show Kd.M Kd.string _ _ _ (⟨#[111, 110, 101, 32, 116, 119, 111, 32, 116, 104, 114, 101, 101, 32, 102, 111, 117, 114, 32, 102, 105, 118, 101, 32, 115, 105, 120, 32, 115, 101, 118, 101, 110, 32, 101, 105, 103, 104, 116, 32, 110, 105, 110, 101, 32, 116, 101, 110, 32, 101, 108, 101, 118, 101, 110]⟩ : ByteArray) [.string (⟨#[111, 110, 101, 32, 116, 119, 111, 32, 116, 104, 114, 101, 101, 32, 102, 111, 117, 114, 32, 102, 105, 118, 101, 32, 115, 105, 120, 32, 115, 101, 118, 101, 110, 32, 101, 105, 103, 104, 116, 32, 110, 105, 110, 101, 32, 116, 101, 110, 32, 101, 108, 101, 118, 101, 110]⟩ : ByteArray)] from rfl) (Reps.none _ _))))))))) ?_; intro v575 w9 ho10 hb; have HO576 := ak (Kd.R_lower (Kd.R_new' ho10 (Kd.R_lt (ur HO571.out))) (keep_size (w := w) (g := g) (row := none) (kh HK.out))); replace HO571 := ak (Kd.R_elder' (ur HO571.out) (Kd.R_base ho10) hb); replace BK568 := kb BK568 hb; replace HK := ak (KeepBut.trans (kh HK.out) (KeepBut.of_below hb g none) (.inl rfl)); replace HB := ak (below_step bi_ hb); replace HI0 := ak (IsS109.below is_ hb); clear hb ho10; obtain ⟨Ao11, co11, eo11⟩ := Kd.R_slice HO576.out; subst eo11) | (refine gL 58 8 Tryz.func58 #[.pointer (some ⟨g, 0, none⟩), .slice Ao11 y574.length co11] ?_; (with_reducible refine (spec_l13Rd_of.calls w0 ?side1 ?side2 (cu ((Kd.R_reads' HO576.out).2.2)) ((Kd.R_reads' HO576.out).2.1) (far_slice (IsS109.own_ne HI0.out HO576.out (by decide))) A3.out).mono ?_); (case side1 => exact is_); (case side2 => exact bi_); rintro e w12 ⟨rfl, hi, hb, hk⟩; refine ⟨_, rfl, ?_⟩; replace BK568 := kc BK568 hk NB568_0; replace HO571 := ki HO571 hk; replace HO576 := ki HO576 hk; replace HK := kt HK hk; replace HB := ak (hb); replace HI0 := ak (hi); clear hb; (try clear hk); (try clear hi); have hnb13 := NB568_0.out; have hnc13 := NB0_568.out; have z14 := cz2 BK568.out))
 refine bodyPost_ret (results_cell_row rfl _ _ gb568 69 #[.string t572, .string t577] (0, 0) _ rfl bq Tryz.underlying69 rfl (by kernel_rfl)) rfl ?_
 exact ⟨er, is_, bi_, kh HK.out⟩
def spec_l3List.l0 : Nat → List (S69) → Int → List Int → Int → Option ((List (S69)) × Int)
 | 0, _, _, _, _ => none
 | k + 1, x3, x4, x1000, x1001 => if x4 > 0 then ((spec_l3Draw.f k x1000 x1001).bind fun bt587 => (if x3.length < 4398046511104 then (spec_l3List.l0 k (x3 ++ [(⟨bt587.1, bt587.2.1⟩ : S69)]) (wrap64 (x4 - 1)) x1000 bt587.2.2) else (none))) else (some (x3, x1001))
def spec_l3List.f (k : Nat) (s0_0 : List Int) (s0_1 : Int) : Option ((List (S69)) × Int) := (spec_l13Rd_num.f k s0_0 s0_1 (([2, 3, 1, 0, 4] : List Int))).bind fun bt585 => (spec_l3List.l0 k (([] : List (S69))) bt585.1 s0_0 bt585.2)
theorem spec_l3List.calls {k g : Nat} {s0_0 : List Int} {s0_1 r2 : Int} {r1 : List (S69)} {w : World} (w0 : World) (hI : IsS109 w0 w g s0_0 s0_1) (hB : Below w0.heap.size w0 w) (h : spec_l3List.f k s0_0 s0_1 = some (r1, r2)) :
  Calls Tryz.prog 144 #[.pointer (some ⟨g, 0, none⟩)] w fun e w' => ∃ v0_ : Value, e = .returned (v0_) ∧ Kd.R k69 69 w' w.heap.size (fun _ => True) v0_ r1 ∧ IsS109 w0 w' g s0_0 r2 ∧ Below w0.heap.size w0 w' ∧ KeepBut w w' g none := by
 have HI0 := ak hI
 have HK := ak (KeepBut.refl w g none)
 have HL := ak hB.size
 clear hI
 have HW0 := ak hB.size
 have HB := ak hB
 clear hB
 have H : ((spec_l13Rd_num.f k s0_0 s0_1 (([2, 3, 1, 0, 4] : List Int))).bind fun bt585 => (spec_l3List.l0 k (([] : List (S69))) bt585.1 s0_0 bt585.2)) = some (r1, r2) := h
 clear h
 obtain ⟨y579, Ny579⟩ := nm ([] : List (S69))
 rw [← Ny579.out] at H
 obtain ⟨y582, Ny582⟩ := nm ([2, 3, 1, 0, 4] : List Int)
 rw [← Ny582.out] at H
 replace H := bd H
 obtain ⟨⟨t585, t586⟩, A2, H⟩ := H
 (try dsimp only at H)
 have H' := ak H; clear H
 go_enter Tryz.func144, Tryz.ntmps144
 go_wp2_with (first | (refine lRN 5 k69 69 Ny579 ?_; intro v580 w3 ho4 hb; have HO581 := ak (Kd.R_lower ho4 (keep_size (w := w) (g := g) (row := none) (kh HK.out))); replace HK := ak (KeepBut.trans (kh HK.out) (KeepBut.of_below hb g none) (.inl rfl)); replace HB := ak (below_step bi_ hb); replace HI0 := ak (IsS109.below is_ hb); clear hb ho4) | (refine lRM 7 (Kd.int .i64) 3 [.int .i64 2, .int .i64 3, .int .i64 1, .int .i64 0, .int .i64 4] Ny582 (Reps.one (show Kd.M (Kd.int .i64) _ _ _ 2 [.int .i64 2] from rfl) (Reps.one (show Kd.M (Kd.int .i64) _ _ _ 3 [.int .i64 3] from rfl) (Reps.one (show Kd.M (Kd.int .i64) _ _ _ 1 [.int .i64 1] from rfl) (Reps.one (show Kd.M (Kd.int .i64) _ _ _ 0 [.int .i64 0] from rfl) (Reps.one (show Kd.M (Kd.int .i64) _ _ _ 4 [.int .i64 4] from rfl) (Reps.none _ _)))))) ?_; intro v583 w5 ho6 hb; have HO584 := ak (Kd.R_lower ho6 (keep_size (w := w) (g := g) (row := none) (kh HK.out))); replace HO581 := rb HO581 hb; replace HK := ak (KeepBut.trans (kh HK.out) (KeepBut.of_below hb g none) (.inl rfl)); replace HB := ak (below_step bi_ hb); replace HI0 := ak (IsS109.below is_ hb); clear hb ho6; obtain ⟨Ao7, co7, eo7⟩ := Kd.R_slice HO584.out; subst eo7) | (refine gL 97 8 Tryz.func97 #[.pointer (some ⟨g, 0, none⟩), .slice Ao7 y582.length co7] ?_; (with_reducible refine (spec_l13Rd_num.calls w0 ?side1 ?side2 (cu ((Kd.R_reads' HO584.out).2.2)) ((Kd.R_reads' HO584.out).2.1) (far_slice (IsS109.own_ne HI0.out HO584.out (by decide))) A2.out).mono ?_); (case side1 => exact is_); (case side2 => exact bi_); rintro e w8 ⟨rfl, hi, hb, hk⟩; refine ⟨_, rfl, ?_⟩; replace HO581 := ki HO581 hk; replace HO584 := ki HO584 hk; replace HK := kt HK hk; replace HB := ak (hb); replace HI0 := ak (hi); clear hb; (try clear hk); (try clear hi)))
 go_loopg [3, 4] k (fun kq v3 v4 w' => ∃ (x3_1 : List (S69)) (x4_1 : Int) (x1001_1 : Int), v4 = .int .i64 x4_1 ∧ Aside0 (spec_l3List.l0 kq x3_1 x4_1 s0_0 x1001_1 = some (r1, r2)) ∧ Aside0 (kq ≤ k) ∧ Aside0 (Kd.R k69 69 w' w.heap.size (fun _ => True) v3 x3_1) ∧ Aside0 (IsS109 w0 w' g s0_0 x1001_1) ∧ Aside0 (KeepBut w w' g none) ∧ Aside0 (Below w0.heap.size w0 w'))
 case atStart => exact ⟨_, _, _, rs, H', ⟨Nat.le_refl _⟩, ⟨ur HO581.out⟩, ⟨is_⟩, ⟨kh HK.out⟩, ⟨bi_⟩⟩
 case round =>
  clear H'
  obtain ⟨x3_1, x4_1, x1001_1, rfl, HA, HK1, HO_3, HI0, HK, HB⟩ := hrel
  cases gk with
  | zero => exact zz HA.out
  | succ k1 =>
   obtain ⟨H⟩ := HA
   simp only [spec_l3List.l0] at H
   replace H := sp H
   rcases H with ⟨c9, H⟩ | ⟨c9, H⟩
   ·
    have c9b0 : decide (0 < x4_1) = true := decide_eq_true c9
    clear c9
    replace H := bd H
    obtain ⟨⟨t587, t588, t589⟩, A10, H⟩ := H
    (try dsimp only at H)
    replace H := nl H; obtain ⟨LMc11, H⟩ := H
    obtain ⟨y590, Ny590⟩ := nm (x3_1 ++ [(⟨t587, t588⟩ : S69)])
    rw [← Ny590.out] at H
    have H' := ak H; clear H
    go_wp2_with (first | (refine gL 168 15 Tryz.func168 #[.pointer (some ⟨g, 0, none⟩)] ?_; (with_reducible refine (spec_l3Draw.calls w0 ?side1 ?side2 A10.out).mono ?_); (case side1 => exact is_); (case side2 => exact bi_); rintro e w12 ⟨rfl, hi, hb, hk⟩; refine ⟨_, rfl, ?_⟩; replace HO_3 := ki HO_3 hk; replace HK := kt HK hk; replace HB := ak (hb); replace HI0 := ak (hi); clear hb; (try clear hk); (try clear hi)) | ((with_reducible refine gate_builtin (b := .append) (xs := #[.tmp 13, .tmp 16]) rfl ?_); at_builtin; refine Kd.R_append k69 w.heap.size rfl (.tmp 13) (.tmp 16) 25 69 (.agg #[(.string ⟨#[]⟩), (.string ⟨#[]⟩)]) 32 rfl Tryz.underlying25 info69 rfl (by decide) (by omega) u3 x3_1 (⟨t587, t588⟩ : S69) [.string t587, .string t588] (fun _ => True) (fun _ => False) rfl rfl ?aP (fun _ hk => hk.elim) ?aF ?aO (Below.refl _ _) ?aS ?aL ?_; (case aP => exact k69_mkM _ _ _ (⟨t587, t588⟩ : S69)); (case aF => exact (fun _ _ => trivial)); (case aO => exact (ur HO_3.out)); (case aS => exact (keep_size (w := w) (g := g) (row := none) (kh HK.out))); (case aL => have := LMc11.out; omega); intro v591 w13 ho hb hg hat; rw [← Ny590.out] at ho; have HO592 := ak (ho); replace HB := ak (below_weaken bi_ HL.out hb); replace HI0 := ak (IsS109.grown is_ hg (IsS109.own_ne HI0.out HO_3.out (by decide))); replace HK := ak (KeepBut.trans (kh HK.out) (KeepBut.of_grown hg g) (Kd.R_base2 HO_3.out)); clear ho hb hg hat HO_3))
    go_roundg k1
    case measure => exact kl
    case rel => exact ⟨_, _, _, rs, H', ⟨kl⟩, ⟨ur HO592.out⟩, ⟨is_⟩, ⟨kh HK.out⟩, ⟨bi_⟩⟩
   ·
    have c9b0 : decide (0 < x4_1) = false := decide_eq_false c9
    clear c9
    obtain ⟨rfl, rfl⟩ := s2 H
    go_wp2
    go_ret
    exact ⟨_, er, ur HO_3.out, is_, bi_, kh HK.out⟩
end Go.Proofs.YtncdadcmghglkaaGreatDoor.PFnPartSame
