/- Printed walks; conditions: those in each statement. -/
import Derived.Test.YtncdadcmghglkaaGreatDoorVFnPartSameQt
import Derived.Test.YtncdadcmghglkaaGreatDoorVFnPartSameYt
import Derived.Test.YtncdadcmghglkaaGreatDoorPFnPartSamex0
import Derived.Test.YtncdadcmghglkaaGreatDoorPFnPartSamex13
import Derived.Test.YtncdadcmghglkaaGreatDoorPFnPartSamex20
import Derived.Test.YtncdadcmghglkaaGreatDoorPFnPartSamex21
-- short
-- dense
-- sq
-- sq2
namespace Go.Proofs.YtncdadcmghglkaaGreatDoor.PFnPartSame
open Go.RowKit Go.Proofs.YtncdadcmghglkaaGreatDoor.X Go.Proofs.YtncdadcmghglkaaGreatDoorW.PrintWords Go.Proofs.YtncdadcmghglkaaGreatDoorW.PrintLast Go.Proofs.YtncdadcmghglkaaGreatDoorW.PrintMore
attribute [local go_sem] max2_int min2_int max_two min_two max_three min_three max_four min_four   -- for this text's walks alone
set_option linter.unusedVariables false
set_option maxHeartbeats 8000000
set_option maxRecDepth 100000
set_option linter.unusedSimpArgs false
def spec_l8Wrong.f (k : Nat) (s0_0 : List Int) (s0_1 : Int) (l1_0 : List (S69)) (l1_1 : List ByteArray) (l1_2 : List (S28)) : Option ((List (S69)) × List ByteArray × (List (S28)) × Int) := (spec_l8Copy.f k l1_0 l1_1 l1_2).bind fun bt702 => ((spec_l13Rd_pick.f k s0_0 s0_1 20).bind fun bt712 => (if bt712.1 = 0 then ((spec_l13Rd_of.f k s0_0 bt712.2 (([(⟨#[10]⟩ : ByteArray), (⟨#[120]⟩ : ByteArray)] : List ByteArray))).bind fun bt717 => (if bt702.2.1.length < 8796093022208 then (some (bt702.1, (bt702.2.1 ++ [bt717.1]), bt702.2.2, bt717.2)) else (none))) else (if bt712.1 = 1 then ((spec_l13Rd_of.f k s0_0 bt712.2 (([(⟨#[97, 32, 98]⟩ : ByteArray), (⟨#[79, 107]⟩ : ByteArray)] : List ByteArray))).bind fun bt725 => ((spec_l13Rd_of.f k s0_0 bt725.2 (([(⟨#[32, 120]⟩ : ByteArray), (⟨#[120]⟩ : ByteArray)] : List ByteArray))).bind fun bt730 => (if bt702.1.length < 4398046511104 then (some ((bt702.1 ++ [(⟨bt725.1, bt730.1⟩ : S69)]), bt702.2.1, bt702.2.2, bt730.2)) else (none)))) else (if bt712.1 = 2 then ((spec_l8Leaf.f k s0_0 bt712.2).bind fun bt735 => (if bt702.2.2.length < 1954687338268 then (some (bt702.1, bt702.2.1, (bt702.2.2 ++ [(⟨bt735.1, bt735.2.1, bt735.2.2.1⟩ : S28)]), bt735.2.2.2)) else (none))) else (some (bt702.1, bt702.2.1, bt702.2.2, bt712.2))))))
def spec_l8Wrong.T4 : Bool × List (List Nat × List Nat) := (true, [([], []), ([0], [0]), ([], []), ([], []), ([2, 3], [2, 3]), ([4], [4]), ([1, 5, 4], [1, 5]), ([0, 1, 2, 3, 4, 5, 6], []), ([7, 6, 6, 0, 1, 2, 3, 4, 5, 6], [6, 7])])
def spec_l8Wrong.B4 : List Nat := [0, 1, 0, 0, 12, 28, 63, 127, 255]
theorem spec_l8Wrong.tab4 : rtab .any (opsOf Tryz.f68 4) = spec_l8Wrong.T4 := by kernel_rfl
theorem spec_l8Wrong.bits4 : waitsOk spec_l8Wrong.T4.2 spec_l8Wrong.B4 = true := by kernel_rfl
def spec_l8Wrong.T6 : Bool × List (List Nat × List Nat) := (true, [([], []), ([0], [0]), ([], []), ([], []), ([2, 3], [2, 3]), ([], []), ([], []), ([5, 6, 4], [5, 6]), ([4, 7], [4, 7]), ([8], [8]), ([1, 9, 7], [1, 9]), ([0, 1, 2, 3, 4, 5, 6, 7, 8, 9, 10], []), ([11, 10, 10, 0, 1, 2, 3, 4, 5, 6, 7, 8, 9, 10], [10, 11])])
def spec_l8Wrong.B6 : List Nat := [0, 1, 0, 0, 12, 0, 0, 124, 252, 508, 1023, 2047, 4095]
theorem spec_l8Wrong.tab6 : rtab .any (opsOf Tryz.f68 6) = spec_l8Wrong.T6 := by kernel_rfl
theorem spec_l8Wrong.bits6 : waitsOk spec_l8Wrong.T6.2 spec_l8Wrong.B6 = true := by kernel_rfl
def spec_l8Wrong.T8 : Bool × List (List Nat × List Nat) := (true, [([], []), ([0], [0]), ([], []), ([2], [2]), ([3], [3]), ([1, 4, 3], [1, 4]), ([0, 1, 2, 3, 4, 5], []), ([6, 5, 5, 0, 1, 2, 3, 4, 5], [5, 6])])
def spec_l8Wrong.B8 : List Nat := [0, 1, 0, 4, 12, 31, 63, 127]
theorem spec_l8Wrong.tab8 : rtab .any (opsOf Tryz.f68 8) = spec_l8Wrong.T8 := by kernel_rfl
theorem spec_l8Wrong.bits8 : waitsOk spec_l8Wrong.T8.2 spec_l8Wrong.B8 = true := by kernel_rfl
theorem spec_l8Wrong.calls {k g c1_0 c1_1 c1_2 : Nat} {s0_0 : List Int} {s0_1 r4 : Int} {A1_0 A1_1 A1_2 : Option Addr} {l1_0 r1 : List (S69)} {l1_1 r2 : List ByteArray} {l1_2 r3 : List (S28)} {w : World} (w0 : World) (hI : IsS109 w0 w g s0_0 s0_1) (hB : Below w0.heap.size w0 w) (hr1_0 : ∀ W_, KeepBut w W_ g none → Kd.C k69 W_ A1_0 l1_0.length l1_0) (hc1_0 : l1_0.length ≤ c1_0) (hr1_1 : Kd.C Kd.string w A1_1 l1_1.length l1_1) (hc1_1 : l1_1.length ≤ c1_1) (hf1_1 : ∀ ad, A1_1 = some ad → 0 < l1_1.length → ad.block ≠ g) (hr1_2 : ∀ W_, KeepBut w W_ g none → Kd.C k28 W_ A1_2 l1_2.length l1_2) (hc1_2 : l1_2.length ≤ c1_2) (h : spec_l8Wrong.f k s0_0 s0_1 l1_0 l1_1 l1_2 = some (r1, r2, r3, r4)) :
  Calls Tryz.prog 68 #[.pointer (some ⟨g, 0, none⟩), .agg #[.slice A1_0 l1_0.length c1_0, .slice A1_1 l1_1.length c1_1, .slice A1_2 l1_2.length c1_2]] w fun e w' => ∃ v0_ v1_ v2_ : Value, e = .returned (.agg #[v0_, v1_, v2_]) ∧ Kd.R k69 69 w' w.heap.size (fun _ => True) v0_ r1 ∧ Kd.R Kd.string 9 w' w.heap.size (fun _ => True) v1_ r2 ∧ Kd.R k28 28 w' w.heap.size (fun k_ => some k_ ≠ (v0_ : Value).ownBlock ∧ some k_ ≠ (v1_ : Value).ownBlock) v2_ r3 ∧ IsS109 w0 w' g s0_0 r4 ∧ Below w0.heap.size w0 w' ∧ KeepBut w w' g none := by
 have hu28 := Tryz.underlying28
 have hu69 := Tryz.underlying69
 have HR1_0 := ak hr1_0
 have HC1_0 := ak hc1_0
 clear hr1_0 hc1_0
 have HR1_1 := ak hr1_1
 have HC1_1 := ak hc1_1
 clear hr1_1 hc1_1
 have HR1_2 := ak hr1_2
 have HC1_2 := ak hc1_2
 clear hr1_2 hc1_2
 have HI0 := ak hI
 have HK := ak (KeepBut.refl w g none)
 have HL := ak hB.size
 clear hI
 have HW0 := ak hB.size
 have HB := ak hB
 clear hB
 have H : ((spec_l8Copy.f k l1_0 l1_1 l1_2).bind fun bt702 => ((spec_l13Rd_pick.f k s0_0 s0_1 20).bind fun bt712 => (if bt712.1 = 0 then ((spec_l13Rd_of.f k s0_0 bt712.2 (([(⟨#[10]⟩ : ByteArray), (⟨#[120]⟩ : ByteArray)] : List ByteArray))).bind fun bt717 => (if bt702.2.1.length < 8796093022208 then (some (bt702.1, (bt702.2.1 ++ [bt717.1]), bt702.2.2, bt717.2)) else (none))) else (if bt712.1 = 1 then ((spec_l13Rd_of.f k s0_0 bt712.2 (([(⟨#[97, 32, 98]⟩ : ByteArray), (⟨#[79, 107]⟩ : ByteArray)] : List ByteArray))).bind fun bt725 => ((spec_l13Rd_of.f k s0_0 bt725.2 (([(⟨#[32, 120]⟩ : ByteArray), (⟨#[120]⟩ : ByteArray)] : List ByteArray))).bind fun bt730 => (if bt702.1.length < 4398046511104 then (some ((bt702.1 ++ [(⟨bt725.1, bt730.1⟩ : S69)]), bt702.2.1, bt702.2.2, bt730.2)) else (none)))) else (if bt712.1 = 2 then ((spec_l8Leaf.f k s0_0 bt712.2).bind fun bt735 => (if bt702.2.2.length < 1954687338268 then (some (bt702.1, bt702.2.1, (bt702.2.2 ++ [(⟨bt735.1, bt735.2.1, bt735.2.2.1⟩ : S28)]), bt735.2.2.2)) else (none))) else (some (bt702.1, bt702.2.1, bt702.2.2, bt712.2))))))) = some (r1, r2, r3, r4) := h
 clear h
 replace H := bd H
 obtain ⟨⟨t702, t705, t708⟩, A3, H⟩ := H
 (try dsimp only at H)
 replace H := bd H
 obtain ⟨⟨t712, t713⟩, A4, H⟩ := H
 (try dsimp only at H)
 replace H := sq H
 rcases H with ⟨c5b0, c5b1, H⟩ | ⟨c5, c5b0, c5b1, H⟩
 ·
  obtain ⟨y714, Ny714⟩ := nm ([(⟨#[10]⟩ : ByteArray), (⟨#[120]⟩ : ByteArray)] : List ByteArray)
  rw [← Ny714.out] at H
  replace H := bd H
  obtain ⟨⟨t717, t718⟩, A6, H⟩ := H
  (try dsimp only at H)
  replace H := nl H; obtain ⟨LMc7, H⟩ := H
  obtain ⟨y719, Ny719⟩ := nm (t705 ++ [t717])
  rw [← Ny719.out] at H
  obtain ⟨rfl, rfl, rfl, rfl⟩ := s4 H
  go_enter Tryz.func68, Tryz.ntmps68
  try go_wp2_with (first | (refine bS HI0 HK HB HW0 3 #[.slice A1_0 l1_0.length c1_0, .slice A1_1 l1_1.length c1_1, .slice A1_2 l1_2.length c1_2] 28 ?_; clear HI0 HK HB; intro gb700 w8 BK700 GW700 GE700 NB0_700 NB700_0 hg hb HI0 HK HB; clear hb hg) | (refine bS HI0 HK HB HW0 4 #[.slice none 0 0, .slice none 0 0, .slice none 0 0] 28 ?_; clear HI0 HK HB; intro gb701 w9 BK701 GW701 GE701 NB0_701 NB701_0 hg hb HI0 HK HB; have NB700_701 := nl_ BK700 hg; have NB701_700 := ng_ BK700 hg; replace BK700 := kb BK700 hb; clear hb hg; have hnb10 := NB700_701.out; have hnc10 := NB701_700.out; have hnb11 := NB700_0.out; have hnc11 := NB0_700.out; have z12 := cz3 BK700.out) | (refine gL 110 7 Tryz.func110 #[.agg #[.slice A1_0 l1_0.length c1_0, .slice A1_1 l1_1.length c1_1, .slice A1_2 l1_2.length c1_2]] ?_; (with_reducible refine (spec_l8Copy.calls k _ _ l1_0 _ _ l1_1 _ _ l1_2 t702 t705 t708 _ (Kd.C_foot_now HR1_0.out (kh HK.out)) HC1_0.out (by with_unfolding_all exact Kd.C_keep (⟨#[]⟩ : ByteArray) HR1_1.out (kh HK.out) hf1_1) HC1_1.out (Kd.C_foot_now HR1_2.out (kh HK.out)) HC1_2.out A3.out).mono ?_); rintro e w13 ⟨v703, v706, v709, rfl, ho0, ho1, ho2, hb⟩; refine ⟨_, rfl, ?_⟩; have HO704 := ak (Kd.R_lower ho0 (keep_size (w := w) (g := g) (row := none) (kh HK.out))); have HO707 := ak (Kd.R_lower ho1 (keep_size (w := w) (g := g) (row := none) (kh HK.out))); have HO710 := ak (Kd.R_lower (Kd.R_newB (Kd.R_newB ho2 (g := gb700) (o := .cells #[.slice A1_0 l1_0.length c1_0, .slice A1_1 l1_1.length c1_1, .slice A1_2 l1_2.length c1_2] 28 (0, 0)) (ub BK700.out)) (g := gb701) (o := .cells #[.slice none 0 0, .slice none 0 0, .slice none 0 0] 28 (0, 0)) (ub BK701.out)) (keep_size (w := w) (g := g) (row := none) (kh HK.out))); replace BK700 := kb BK700 hb; replace BK701 := kb BK701 hb; replace HK := ak (KeepBut.trans (kh HK.out) (KeepBut.of_below hb g none) (.inl rfl)); replace HB := ak (below_step bi_ hb); replace HI0 := ak (IsS109.below is_ hb); clear hb; (try clear ho0); (try clear ho1); (try clear ho2)) | (refine bS HI0 HK HB HW0 5 #[.slice none 0 0, .slice none 0 0, .slice none 0 0] 28 ?_; clear HI0 HK HB; intro gb711 w14 BK711 GW711 GE711 NB0_711 NB711_0 hg hb HI0 HK HB; have NB700_711 := nl_ BK700 hg; have NB711_700 := ng_ BK700 hg; have NB701_711 := nl_ BK701 hg; have NB711_701 := ng_ BK701 hg; replace HO704 := rb HO704 hb; replace HO707 := rb HO707 hb; replace HO710 := ak (Kd.R_below (Kd.R_elderB (ur HO710.out) gb711 (Nat.le_of_eq hg.symm)) hb); replace BK700 := kb BK700 hb; replace BK701 := kb BK701 hb; clear hb hg; obtain ⟨Ao15, co15, eo15⟩ := Kd.R_slice HO704.out; subst eo15; have hnb16 := NB711_700.out; have hnc16 := NB700_711.out; have hnb17 := NB711_701.out; have hnc17 := NB701_711.out; have hnb18 := NB711_0.out; have hnc18 := NB0_711.out; have z19 := cz3 BK711.out; obtain ⟨Ao20, co20, eo20⟩ := Kd.R_slice HO707.out; subst eo20; obtain ⟨Ao21, co21, eo21⟩ := Kd.R_slice HO710.out; subst eo21) | (refine gL 57 9 Tryz.func57 #[.pointer (some ⟨g, 0, none⟩), .int .i64 20] ?_; (with_reducible refine (spec_l13Rd_pick.calls w0 ?side1 ?side2 A4.out).mono ?_); (case side1 => exact is_); (case side2 => exact bi_); rintro e w22 ⟨rfl, hi, hb, hk⟩; refine ⟨_, rfl, ?_⟩; replace BK700 := kd_ BK700 #[.slice A1_0 l1_0.length c1_0, .slice A1_1 l1_1.length c1_1, .slice A1_2 l1_2.length c1_2] hk NB700_0; replace BK701 := kd_ BK701 #[.slice none 0 0, .slice none 0 0, .slice none 0 0] hk NB701_0; replace HO704 := ki (w0 := w0) (f0 := s0_0) (f1 := s0_1) HO704 hk; replace HO707 := ki (w0 := w0) (f0 := s0_0) (f1 := s0_1) HO707 hk; replace HO710 := ak (Kd.R_mono (Kd.R_keep (IsS109.apart (show IsS109 w0 _ g s0_0 s0_1 from is_) (ur (Kd.R_mono (Kd.R_far (p := ⟨gb711, 2, none⟩) (Kd.R_far (p := ⟨gb711, 1, none⟩) (Kd.R_far (p := ⟨gb711, 0, none⟩) (Kd.R_mono HO710.out (fun k_ hk => (⟨hk, hk.2⟩ : _ ∧ k_ ≠ gb711))) (fun _ hk => hk.2) (.slice Ao15 t702.length co15)) (fun _ hk => hk.2) (.slice Ao20 t705.length co20)) (fun _ hk => hk.2) (.slice Ao21 t708.length co21)) (fun _ h_ => h_.1))) (by decide)) hk (fun _ h => h.2)) (fun _ h => h.1)); replace BK711 := kd_ BK711 #[.slice Ao15 t702.length co15, .slice Ao20 t705.length co20, .slice Ao21 t708.length co21] hk NB711_0; replace HK := kt HK hk; replace HB := ak (hb); replace HI0 := ak (hi); clear hb; (try clear hk); (try clear hi)))
  replace HO704 := ak (Kd.R_drew HO704.out)
  replace HO707 := ak (Kd.R_drew HO707.out)
  replace HO710 := ak (Kd.R_drew HO710.out)
  replace BK700 := ak (blk_drew BK700.out)
  replace BK701 := ak (blk_drew BK701.out)
  replace BK711 := ak (blk_drew BK711.out)
  replace HI0 := ak (IsS109.drew HI0.out)
  replace HK := ak (keep_drew HK.out)
  replace HB := ak (below_drew1 HB.out)
  refine start_ (n := 9) (S := fun w' => w'.cell? ⟨gb711, 0, none⟩ = some (.slice Ao15 t702.length co15) ∧ w'.cell? ⟨gb711, 1, none⟩ = some (.slice Ao20 t705.length co20) ∧ w'.cell? ⟨gb711, 2, none⟩ = some (.slice Ao21 t708.length co21)) (ds := [8]) #[false, false, false, false, false, false, false, false, false] (by kernel_rfl) rfl rfl ⟨(blk_cell BK711.out 0).trans rfl, (blk_cell BK711.out 1).trans rfl, (blk_cell BK711.out 2).trans rfl⟩ (fun hHeld => ?_); refine with_tabW spec_l8Wrong.tab4 spec_l8Wrong.bits4 (fun HT_ HW_ => ?_)
  generalize w22.drew = w23 at HO704 HO707 HO710 BK700 BK701 BK711 HI0 HK HB hHeld ⊢
  refine pure_ (i := 0) (N := some 12) (v := ?_) (a' := ?_) #[true, false, false, false, false, false, false, false, false] rfl rfl (any_of HT_.out (by kernel_rfl)) (fun _ _ _ h => h) (Or.inl ⟨by rfl, ?_⟩) ?_ ?_
  rotate_left
  ·
   intro w'
   go_simp
   with_reducible rfl
  rotate_left
  ·
   simp only [Act.put, l_a, l_b, l_c, i64_w, i32_w]
   rfl
  refine pure_ (i := 2) (N := some 14) (v := ?_) (a' := ?_) #[true, false, true, false, false, false, false, false, false] rfl rfl (any_of HT_.out (by kernel_rfl)) (fun _ _ _ h => h) (Or.inl ⟨by rfl, ?_⟩) ?_ ?_
  rotate_left
  ·
   intro w'
   go_simp
   with_reducible rfl
  rotate_left
  ·
   simp only [Act.put, l_a, l_b, l_c, i64_w, i32_w]
   rfl
  refine take_ (i := 1) (N := some 13) (v := ?_) (a' := ?_) #[true, true, true, false, false, false, false, false, false] rfl rfl (take_ofW HT_.out HW_.out (by kernel_rfl)) (fun _ _ _ h => h) (Or.inl ⟨by rfl, ?_⟩) hHeld ?_ ?_
  rotate_left
  ·
   rintro w' ⟨s0, s1, s2⟩
   go_simp
   with_reducible rfl
  rotate_left
  ·
   simp only [Act.put, l_a, l_b, l_c, i64_w, i32_w]
   rfl
  refine one_ (i := 3) (N := some 15) #[true, true, true, true, false, false, false, false, false] rfl rfl (one_of HT_.out (by kernel_rfl)) (by decide) (fun K hK => ?_)
  refine Kd.R_lit_step Kd.string _ 9 ?hg (N := 15) ?hd (xs := ([(⟨#[10]⟩ : ByteArray), (⟨#[120]⟩ : ByteArray)] : List ByteArray)) (inner := [.string (⟨#[10]⟩ : ByteArray), .string (⟨#[120]⟩ : ByteArray)]) (ok := fun _ => True) (okp := fun _ => True) ?hr ?hp (fun _ hk => hk) trivial (Below.refl _ _) (Nat.le_refl _) (by simp) ?_; (case hd => rfl); (case hg => rfl); (case hr => first | (go_simp; done) | (go_simp; rfl)); (case hp => exact (Reps.one (show Kd.M Kd.string _ _ _ (⟨#[10]⟩ : ByteArray) [.string (⟨#[10]⟩ : ByteArray)] from rfl) (Reps.one (show Kd.M Kd.string _ _ _ (⟨#[120]⟩ : ByteArray) [.string (⟨#[120]⟩ : ByteArray)] from rfl) (Reps.none _ _))))
  intro v715 w24 ho25 hb hg_ hnew_
  clear hg_ hnew_
  (first | rw [← Ny714.out] at ho25 | (simp only [Int.reduceToNat] at ho25; rw [← Ny714.out] at ho25))
  have HO716 := ak (Kd.R_lower (Kd.R_new' ho25 (Kd.R_lt (ur HO707.out))) (keep_size (w := w) (g := g) (row := none) (kh HK.out)))
  replace HO704 := rb HO704 hb
  replace HO707 := ak (Kd.R_elder' (ur HO707.out) (Kd.R_base ho25) hb)
  replace HO710 := ak (Kd.R_elder' (ur HO710.out) (Kd.R_base ho25) hb)
  replace BK700 := kb BK700 hb
  replace BK701 := kb BK701 hb
  replace BK711 := kb BK711 hb
  replace HK := ak (KeepBut.trans (kh HK.out) (KeepBut.of_below hb g none) (.inl rfl))
  replace HB := ak (below_step bi_ hb)
  replace HI0 := ak (IsS109.below is_ hb)
  clear hb ho25
  obtain ⟨Ao26, co26, eo26⟩ := Kd.R_slice HO716.out
  (first | subst eo26 | (injection eo26 with f1_ f2_ f3_; have f4_ := f1_.symm; have f5_ := f3_.symm; clear f1_ f2_ f3_; subst f4_; subst f5_))
  refine hK.out _ _ sx (fun hHeld => ?_)
  clear hK K
  refine norm_ (a' := ?_) ?_ ?_
  rotate_left
  ·
   show Act.put _ (some 15) _ = _
   simp only [Act.put, l_a, l_b, l_c, i64_w, i32_w]
   rfl
  refine one_ (i := 4) (N := some 16) #[true, true, true, true, true, false, false, false, false] rfl rfl (one_of HT_.out (by kernel_rfl)) (by decide) (fun K hK => ?_)
  refine goes_ Tryz.func58 (by kernel_rfl) rfl #[.pointer (some ⟨g, 0, none⟩), .slice Ao26 y714.length co26] (by rfl) rfl rfl ma ?_
  with_reducible refine (spec_l13Rd_of.calls w0 ?side1 ?side2 ?side3 ?side4 ?side5 A6.out).mono ?_
  (case side1 => exact is_)
  (case side2 => exact bi_)
  (case side3 => repeat (first | exact (Kd.R_reads' HO716.out).2.2 | (with_reducible refine Kd.C_alloc ?_ _) | (with_reducible refine Kd.C_drewN ?_ _) | (with_reducible refine Kd.C_drew ?_)))
  (case side4 => exact (Kd.R_reads' HO716.out).2.1)
  (case side5 => exact far_slice (IsS109.own_ne HI0.out HO716.out (by decide)))
  rintro e w27 ⟨rfl, hi, hb, hk⟩
  refine ⟨_, rfl, ?_⟩
  replace BK700 := kc BK700 hk NB700_0
  replace BK701 := kc BK701 hk NB701_0
  replace HO704 := ki (w0 := w0) (f0 := s0_0) (f1 := t713) HO704 hk
  replace HO707 := ki (w0 := w0) (f0 := s0_0) (f1 := t713) HO707 hk
  replace HO710 := ki (w0 := w0) (f0 := s0_0) (f1 := t713) HO710 hk
  replace BK711 := kc BK711 hk NB711_0
  replace HO716 := ki (w0 := w0) (f0 := s0_0) (f1 := t713) HO716 hk
  replace HK := kt HK hk
  replace HB := ak (hb)
  replace HI0 := ak (hi)
  try clear hb
  try clear hk
  try clear hi
  refine hK.out _ _ sx (fun hHeld => ?_)
  clear hK K
  refine norm_ (a' := ?_) ?_ ?_
  rotate_left
  ·
   show Act.put _ (some 16) _ = _
   simp only [Act.put, l_a, l_b, l_c, i64_w, i32_w]
   rfl
  refine one_ (i := 5) (N := some 17) #[true, true, true, true, true, true, false, false, false] rfl rfl (one_of HT_.out (by kernel_rfl)) (by decide) (fun K hK => ?_)
  refine value_ (w1 := ?_) (v := ?_) (by rfl) rfl ?_ ?_
  rotate_left 2
  ·
   go_simp
   constructor
   ·
    rfl
   ·
    rfl
  refine hK.out _ _ ⟨(blk_cell (blk_alloc BK711.out _) 0).trans rfl, (blk_cell (blk_alloc BK711.out _) 1).trans rfl, (blk_cell (blk_alloc BK711.out _) 2).trans rfl⟩ (fun hHeld => ?_)
  clear hK K
  refine norm_ (a' := ?_) ?_ ?_
  rotate_left
  ·
   show Act.put _ (some 17) _ = _
   simp only [Act.put, l_a, l_b, l_c, i64_w, i32_w]
   rfl
  refine one_ (i := 6) (N := some 18) #[true, true, true, true, true, true, true, false, false] rfl rfl (one_of HT_.out (by kernel_rfl)) (by decide) (fun K hK => ?_)
  refine Kd.R_append_step Kd.string w.heap.size (by rfl) (.tmp 13) (.tmp 17) 23 9 (.string ⟨#[]⟩) 16 rfl Tryz.underlying23 info9 rfl (by decide) (by omega) (.slice Ao20 t705.length co20) t705 t717 [.string t717] (fun k_ => some k_ ≠ (.slice Ao26 y714.length co26 : Value).ownBlock) (fun _ => False) rfl rfl ?aP (fun _ hk => hk.elim) ?aF ?aO (Below.refl _ _) ?aS ?aL ?_
  (case aP => exact rfl)
  (case aF => exact (fun k_ hk => Kd.fresh' (Kd.R_lt (ur HO716.out)) k_ hk))
  (case aO => exact (ur (Kd.R_mono HO707.out (fun _ hk => hk.2))))
  (case aS => exact (keep_size (w := w) (g := g) (row := none) (kh HK.out)))
  (case aL => have := LMc7.out; omega)
  intro v720 w28 ho hb hg hat
  rw [← Ny719.out] at ho
  have n0_ := ak (IsS109.grown is_ hg (IsS109.own_ne HI0.out HO707.out (by decide)))
  have n1_ := ak (blk_grown (g := gb700) (o := .cells #[.slice A1_0 l1_0.length c1_0, .slice A1_1 l1_1.length c1_1, .slice A1_2 l1_2.length c1_2] 28 (0, 0)) (ub BK700.out) hg (Kd.R_ne HO707.out BK700.out (by decide)))
  have n2_ := ak (blk_grown (g := gb701) (o := .cells #[.slice none 0 0, .slice none 0 0, .slice none 0 0] 28 (0, 0)) (ub BK701.out) hg (Kd.R_ne HO707.out BK701.out (by decide)))
  have n3_ := ak (Kd.R_over' (ur HO704.out) (Kd.R_typed (ur HO707.out)) (by decide) hg)
  have n4_ := ak (Kd.R_after (ok := (fun k_ => some k_ ≠ (.slice Ao15 t702.length co15 : Value).ownBlock ∧ some k_ ≠ (.slice Ao26 y714.length co26 : Value).ownBlock ∧ k_ ≠ gb700 ∧ k_ ≠ gb701 ∧ k_ ≠ gb711)) (ur (Kd.R_mono HO710.out (fun _ hk => ⟨⟨hk.1.1.1.1.1, ⟨hk.2, ⟨hk.1.1.1.2, ⟨hk.1.1.2, hk.1.2⟩⟩⟩⟩, hk.1.1.1.1.2⟩))) hg hat)
  have n5_ := ak (blk_grown (g := gb711) (o := .cells #[.slice Ao15 t702.length co15, .slice Ao20 t705.length co20, .slice Ao21 t708.length co21] 28 (0, 0)) (ub BK711.out) hg (Kd.R_ne HO707.out BK711.out (by decide)))
  have n6_ := ak (Kd.R_after (ok := (fun _ => True)) (ur HO716.out) hg hat)
  have n7_ := ak (below_weaken bi_ HL.out hb)
  have n8_ := ak (KeepBut.trans (kh HK.out) (KeepBut.of_grown hg g) (Kd.R_base2 HO707.out))
  have n9_ := ak (ho)
  clear HI0 BK700 BK701 HO704 HO710 BK711 HO716 HB HK HO707
  have HI0 := n0_
  have BK700 := n1_
  have BK701 := n2_
  have HO704 := n3_
  have HO710 := n4_
  have BK711 := n5_
  have HO716 := n6_
  have HB := n7_
  have HK := n8_
  have HO721 := n9_
  clear n0_ n1_ n2_ n3_ n4_ n5_ n6_ n7_ n8_ n9_ ho hb hg hat
  obtain ⟨Ao29, co29, eo29⟩ := Kd.R_slice HO721.out
  (first | subst eo29 | (injection eo29 with f1_ f2_ f3_; have f4_ := f1_.symm; have f5_ := f3_.symm; clear f1_ f2_ f3_; subst f4_; subst f5_))
  refine hK.out _ _ sx (fun hHeld => ?_)
  clear hK K
  refine norm_ (a' := ?_) ?_ ?_
  rotate_left
  ·
   show Act.put _ (some 18) _ = _
   simp only [Act.put, l_a, l_b, l_c, i64_w, i32_w]
   rfl
  refine pure_ (i := 7) (N := some 19) (v := ?_) (a' := ?_) #[true, true, true, true, true, true, true, true, false] rfl rfl (any_of HT_.out (by kernel_rfl)) (fun _ _ _ h => h) (Or.inl ⟨by rfl, ?_⟩) ?_ ?_
  rotate_left
  ·
   intro w'
   go_simp
   with_reducible rfl
  rotate_left
  ·
   simp only [Act.put, l_a, l_b, l_c, i64_w, i32_w]
   rfl
  refine last_ (i := 8) (N := none) #[true, true, true, true, true, true, true, true, true] rfl rfl (one_of HT_.out (by kernel_rfl)) (by decide) (fun K hK => ?_)
  have hs30 : w28.cell? ⟨gb711, 1, none⟩ = some (.slice Ao20 t705.length co20) := (blk_cell BK711.out 1).trans rfl
  have hfs30 := blk_frozen BK711.out 1
  have hns30_0 := NB700_711.out
  have hns30_1 := NB701_711.out
  have hms30_0 := NB711_700.out
  have hms30_1 := NB711_701.out
  refine skip_ (w1 := ?_) (by rfl) rfl ?_ ?_
  rotate_left
  ·
   go_simp
   rfl
  refine hK.out _ _ ?_
  clear hK K
  refine done_ (done_of HT_.out (by kernel_rfl)) ?_
  have z31 := cz3 BK711.out
  have hnb32 := NB701_0.out
  have hnc32 := NB0_701.out
  have z33 := cz3 BK701.out
  try go_wp2
  refine bodyPost_ret (results_cell_row rfl _ _ gb701 28 #[.slice Ao15 t702.length co15, .slice Ao29 y719.length co29, .slice Ao21 t708.length co21] (0, 0) _ rfl bq Tryz.underlying28 rfl (by kernel_rfl)) rfl ?_
  exact ⟨_, _, _, er, rr, rr, rr, is_, bi_, kh HK.out⟩
 ·
  replace H := sq H
  rcases H with ⟨c34b0, c34b1, H⟩ | ⟨c34, c34b0, c34b1, H⟩
  ·
   obtain ⟨y722, Ny722⟩ := nm ([(⟨#[97, 32, 98]⟩ : ByteArray), (⟨#[79, 107]⟩ : ByteArray)] : List ByteArray)
   rw [← Ny722.out] at H
   replace H := bd H
   obtain ⟨⟨t725, t726⟩, A35, H⟩ := H
   (try dsimp only at H)
   obtain ⟨y727, Ny727⟩ := nm ([(⟨#[32, 120]⟩ : ByteArray), (⟨#[120]⟩ : ByteArray)] : List ByteArray)
   rw [← Ny727.out] at H
   replace H := bd H
   obtain ⟨⟨t730, t731⟩, A36, H⟩ := H
   (try dsimp only at H)
   replace H := nl H; obtain ⟨LMc37, H⟩ := H
   obtain ⟨y732, Ny732⟩ := nm (t702 ++ [(⟨t725, t730⟩ : S69)])
   rw [← Ny732.out] at H
   obtain ⟨rfl, rfl, rfl, rfl⟩ := s4 H
   go_enter Tryz.func68, Tryz.ntmps68
   try go_wp2_with (first | (refine bS HI0 HK HB HW0 3 #[.slice A1_0 l1_0.length c1_0, .slice A1_1 l1_1.length c1_1, .slice A1_2 l1_2.length c1_2] 28 ?_; clear HI0 HK HB; intro gb700 w38 BK700 GW700 GE700 NB0_700 NB700_0 hg hb HI0 HK HB; clear hb hg) | (refine bS HI0 HK HB HW0 4 #[.slice none 0 0, .slice none 0 0, .slice none 0 0] 28 ?_; clear HI0 HK HB; intro gb701 w39 BK701 GW701 GE701 NB0_701 NB701_0 hg hb HI0 HK HB; have NB700_701 := nl_ BK700 hg; have NB701_700 := ng_ BK700 hg; replace BK700 := kb BK700 hb; clear hb hg; have hnb40 := NB700_701.out; have hnc40 := NB701_700.out; have hnb41 := NB700_0.out; have hnc41 := NB0_700.out; have z42 := cz3 BK700.out) | (refine gL 110 7 Tryz.func110 #[.agg #[.slice A1_0 l1_0.length c1_0, .slice A1_1 l1_1.length c1_1, .slice A1_2 l1_2.length c1_2]] ?_; (with_reducible refine (spec_l8Copy.calls k _ _ l1_0 _ _ l1_1 _ _ l1_2 t702 t705 t708 _ (Kd.C_foot_now HR1_0.out (kh HK.out)) HC1_0.out (by with_unfolding_all exact Kd.C_keep (⟨#[]⟩ : ByteArray) HR1_1.out (kh HK.out) hf1_1) HC1_1.out (Kd.C_foot_now HR1_2.out (kh HK.out)) HC1_2.out A3.out).mono ?_); rintro e w43 ⟨v703, v706, v709, rfl, ho0, ho1, ho2, hb⟩; refine ⟨_, rfl, ?_⟩; have HO704 := ak (Kd.R_lower ho0 (keep_size (w := w) (g := g) (row := none) (kh HK.out))); have HO707 := ak (Kd.R_lower ho1 (keep_size (w := w) (g := g) (row := none) (kh HK.out))); have HO710 := ak (Kd.R_lower (Kd.R_newB (Kd.R_newB ho2 (g := gb700) (o := .cells #[.slice A1_0 l1_0.length c1_0, .slice A1_1 l1_1.length c1_1, .slice A1_2 l1_2.length c1_2] 28 (0, 0)) (ub BK700.out)) (g := gb701) (o := .cells #[.slice none 0 0, .slice none 0 0, .slice none 0 0] 28 (0, 0)) (ub BK701.out)) (keep_size (w := w) (g := g) (row := none) (kh HK.out))); replace BK700 := kb BK700 hb; replace BK701 := kb BK701 hb; replace HK := ak (KeepBut.trans (kh HK.out) (KeepBut.of_below hb g none) (.inl rfl)); replace HB := ak (below_step bi_ hb); replace HI0 := ak (IsS109.below is_ hb); clear hb; (try clear ho0); (try clear ho1); (try clear ho2)) | (refine bS HI0 HK HB HW0 5 #[.slice none 0 0, .slice none 0 0, .slice none 0 0] 28 ?_; clear HI0 HK HB; intro gb711 w44 BK711 GW711 GE711 NB0_711 NB711_0 hg hb HI0 HK HB; have NB700_711 := nl_ BK700 hg; have NB711_700 := ng_ BK700 hg; have NB701_711 := nl_ BK701 hg; have NB711_701 := ng_ BK701 hg; replace HO704 := rb HO704 hb; replace HO707 := rb HO707 hb; replace HO710 := ak (Kd.R_below (Kd.R_elderB (ur HO710.out) gb711 (Nat.le_of_eq hg.symm)) hb); replace BK700 := kb BK700 hb; replace BK701 := kb BK701 hb; clear hb hg; obtain ⟨Ao45, co45, eo45⟩ := Kd.R_slice HO704.out; subst eo45; have hnb46 := NB711_700.out; have hnc46 := NB700_711.out; have hnb47 := NB711_701.out; have hnc47 := NB701_711.out; have hnb48 := NB711_0.out; have hnc48 := NB0_711.out; have z49 := cz3 BK711.out; obtain ⟨Ao50, co50, eo50⟩ := Kd.R_slice HO707.out; subst eo50; obtain ⟨Ao51, co51, eo51⟩ := Kd.R_slice HO710.out; subst eo51) | (refine gL 57 9 Tryz.func57 #[.pointer (some ⟨g, 0, none⟩), .int .i64 20] ?_; (with_reducible refine (spec_l13Rd_pick.calls w0 ?side1 ?side2 A4.out).mono ?_); (case side1 => exact is_); (case side2 => exact bi_); rintro e w52 ⟨rfl, hi, hb, hk⟩; refine ⟨_, rfl, ?_⟩; replace BK700 := kd_ BK700 #[.slice A1_0 l1_0.length c1_0, .slice A1_1 l1_1.length c1_1, .slice A1_2 l1_2.length c1_2] hk NB700_0; replace BK701 := kd_ BK701 #[.slice none 0 0, .slice none 0 0, .slice none 0 0] hk NB701_0; replace HO704 := ki (w0 := w0) (f0 := s0_0) (f1 := s0_1) HO704 hk; replace HO707 := ki (w0 := w0) (f0 := s0_0) (f1 := s0_1) HO707 hk; replace HO710 := ak (Kd.R_mono (Kd.R_keep (IsS109.apart (show IsS109 w0 _ g s0_0 s0_1 from is_) (ur (Kd.R_mono (Kd.R_far (p := ⟨gb711, 2, none⟩) (Kd.R_far (p := ⟨gb711, 1, none⟩) (Kd.R_far (p := ⟨gb711, 0, none⟩) (Kd.R_mono HO710.out (fun k_ hk => (⟨hk, hk.2⟩ : _ ∧ k_ ≠ gb711))) (fun _ hk => hk.2) (.slice Ao45 t702.length co45)) (fun _ hk => hk.2) (.slice Ao50 t705.length co50)) (fun _ hk => hk.2) (.slice Ao51 t708.length co51)) (fun _ h_ => h_.1))) (by decide)) hk (fun _ h => h.2)) (fun _ h => h.1)); replace BK711 := kd_ BK711 #[.slice Ao45 t702.length co45, .slice Ao50 t705.length co50, .slice Ao51 t708.length co51] hk NB711_0; replace HK := kt HK hk; replace HB := ak (hb); replace HI0 := ak (hi); clear hb; (try clear hk); (try clear hi)))
   replace HO704 := ak (Kd.R_drew HO704.out)
   replace HO707 := ak (Kd.R_drew HO707.out)
   replace HO710 := ak (Kd.R_drew HO710.out)
   replace BK700 := ak (blk_drew BK700.out)
   replace BK701 := ak (blk_drew BK701.out)
   replace BK711 := ak (blk_drew BK711.out)
   replace HI0 := ak (IsS109.drew HI0.out)
   replace HK := ak (keep_drew HK.out)
   replace HB := ak (below_drew1 HB.out)
   refine start_ (n := 13) (S := fun w' => w'.cell? ⟨gb711, 0, none⟩ = some (.slice Ao45 t702.length co45) ∧ w'.cell? ⟨gb711, 1, none⟩ = some (.slice Ao50 t705.length co50) ∧ w'.cell? ⟨gb711, 2, none⟩ = some (.slice Ao51 t708.length co51)) (ds := [12]) #[false, false, false, false, false, false, false, false, false, false, false, false, false] (by kernel_rfl) rfl rfl ⟨(blk_cell BK711.out 0).trans rfl, (blk_cell BK711.out 1).trans rfl, (blk_cell BK711.out 2).trans rfl⟩ (fun hHeld => ?_); refine with_tabW spec_l8Wrong.tab6 spec_l8Wrong.bits6 (fun HT_ HW_ => ?_)
   generalize w52.drew = w53 at HO704 HO707 HO710 BK700 BK701 BK711 HI0 HK HB hHeld ⊢
   refine pure_ (i := 0) (N := some 22) (v := ?_) (a' := ?_) #[true, false, false, false, false, false, false, false, false, false, false, false, false] rfl rfl (any_of HT_.out (by kernel_rfl)) (fun _ _ _ h => h) (Or.inl ⟨by rfl, ?_⟩) ?_ ?_
   rotate_left
   ·
    intro w'
    go_simp
    with_reducible rfl
   rotate_left
   ·
    simp only [Act.put, l_a, l_b, l_c, i64_w, i32_w]
    rfl
   refine pure_ (i := 2) (N := some 24) (v := ?_) (a' := ?_) #[true, false, true, false, false, false, false, false, false, false, false, false, false] rfl rfl (any_of HT_.out (by kernel_rfl)) (fun _ _ _ h => h) (Or.inl ⟨by rfl, ?_⟩) ?_ ?_
   rotate_left
   ·
    intro w'
    go_simp
    with_reducible rfl
   rotate_left
   ·
    simp only [Act.put, l_a, l_b, l_c, i64_w, i32_w]
    rfl
   refine pure_ (i := 5) (N := some 27) (v := ?_) (a' := ?_) #[true, false, true, false, false, true, false, false, false, false, false, false, false] rfl rfl (any_of HT_.out (by kernel_rfl)) (fun _ _ _ h => h) (Or.inl ⟨by rfl, ?_⟩) ?_ ?_
   rotate_left
   ·
    intro w'
    go_simp
    with_reducible rfl
   rotate_left
   ·
    simp only [Act.put, l_a, l_b, l_c, i64_w, i32_w]
    rfl
   refine take_ (i := 1) (N := some 23) (v := ?_) (a' := ?_) #[true, true, true, false, false, true, false, false, false, false, false, false, false] rfl rfl (take_ofW HT_.out HW_.out (by kernel_rfl)) (fun _ _ _ h => h) (Or.inl ⟨by rfl, ?_⟩) hHeld ?_ ?_
   rotate_left
   ·
    rintro w' ⟨s0, s1, s2⟩
    go_simp
    with_reducible rfl
   rotate_left
   ·
    simp only [Act.put, l_a, l_b, l_c, i64_w, i32_w]
    rfl
   refine join_ (σ := Value × Value) 6 #[true, true, true, true, true, true, true, false, false, false, false, false, false] (fun s_ => [(25, s_.1), (26, .string t725), (28, s_.2)]) (fun s_ w' => (w'.cell? ⟨gb711, 0, none⟩ = some (.slice Ao45 t702.length co45) ∧ w'.cell? ⟨gb711, 1, none⟩ = some (.slice Ao50 t705.length co50) ∧ w'.cell? ⟨gb711, 2, none⟩ = some (.slice Ao51 t708.length co51)) ∧ (Kd.R k69 69 w' w.heap.size (fun _ => True) (.slice Ao45 t702.length co45) t702) ∧ (Kd.R Kd.string 9 w' w.heap.size (fun k_ => some k_ ≠ (s_.1 : Value).ownBlock ∧ some k_ ≠ (s_.2 : Value).ownBlock) (.slice Ao50 t705.length co50) t705) ∧ (Kd.R k28 28 w' w.heap.size (fun k_ => some k_ ≠ (.slice Ao45 t702.length co45 : Value).ownBlock ∧ some k_ ≠ (.slice Ao50 t705.length co50 : Value).ownBlock ∧ some k_ ≠ (s_.1 : Value).ownBlock ∧ some k_ ≠ (s_.2 : Value).ownBlock ∧ k_ ≠ gb700 ∧ k_ ≠ gb701 ∧ k_ ≠ gb711) (.slice Ao51 t708.length co51) t708) ∧ (Kd.R Kd.string 9 w' w.heap.size (fun k_ => some k_ ≠ (.slice Ao50 t705.length co50 : Value).ownBlock ∧ some k_ ≠ (s_.2 : Value).ownBlock) s_.1 y722) ∧ (Kd.R Kd.string 9 w' w.heap.size (fun k_ => some k_ ≠ (.slice Ao50 t705.length co50 : Value).ownBlock ∧ some k_ ≠ (s_.1 : Value).ownBlock) s_.2 y727) ∧ (w'.heap[gb700]? = some (.cells #[.slice A1_0 l1_0.length c1_0, .slice A1_1 l1_1.length c1_1, .slice A1_2 l1_2.length c1_2] 28 (0, 0))) ∧ (w'.heap[gb701]? = some (.cells #[.slice none 0 0, .slice none 0 0, .slice none 0 0] 28 (0, 0))) ∧ (w'.heap[gb711]? = some (.cells #[.slice Ao45 t702.length co45, .slice Ao50 t705.length co50, .slice Ao51 t708.length co51] 28 (0, 0))) ∧ (IsS109 w0 w' g s0_0 t726) ∧ (KeepBut w w' g none) ∧ (Below w0.heap.size w0 w')) ?_ ?_
   rotate_left
   ·
    intro hCont
    refine two_ (i := 3) (j := 6) (Ni := some 25) (Nj := some 28) #[true, true, true, true, false, true, false, false, false, false, false, false, false] #[true, true, true, false, false, true, true, false, false, false, false, false, false] rfl rfl rfl rfl (two_of HT_.out (by kernel_rfl)) (by decide) (by decide) (fun K hK => ?_) (fun K hK => ?_)
    ·
     skip
     refine Kd.R_lit_step Kd.string _ 9 ?hg (N := 25) ?hd (xs := ([(⟨#[97, 32, 98]⟩ : ByteArray), (⟨#[79, 107]⟩ : ByteArray)] : List ByteArray)) (inner := [.string (⟨#[97, 32, 98]⟩ : ByteArray), .string (⟨#[79, 107]⟩ : ByteArray)]) (ok := fun _ => True) (okp := fun _ => True) ?hr ?hp (fun _ hk => hk) trivial (Below.refl _ _) (Nat.le_refl _) (by simp) ?_; (case hd => rfl); (case hg => rfl); (case hr => first | (go_simp; done) | (go_simp; rfl)); (case hp => exact (Reps.one (show Kd.M Kd.string _ _ _ (⟨#[97, 32, 98]⟩ : ByteArray) [.string (⟨#[97, 32, 98]⟩ : ByteArray)] from rfl) (Reps.one (show Kd.M Kd.string _ _ _ (⟨#[79, 107]⟩ : ByteArray) [.string (⟨#[79, 107]⟩ : ByteArray)] from rfl) (Reps.none _ _))))
     intro v723 w54 ho55 hb hg_ hnew_
     clear hg_ hnew_
     (first | rw [← Ny722.out] at ho55 | (simp only [Int.reduceToNat] at ho55; rw [← Ny722.out] at ho55))
     have HO724 := ak (Kd.R_lower (Kd.R_new' ho55 (Kd.R_lt (ur HO707.out))) (keep_size (w := w) (g := g) (row := none) (kh HK.out)))
     replace HO704 := rb HO704 hb
     replace HO707 := ak (Kd.R_elder' (ur HO707.out) (Kd.R_base ho55) hb)
     replace HO710 := ak (Kd.R_elder' (ur HO710.out) (Kd.R_base ho55) hb)
     replace BK700 := kb BK700 hb
     replace BK701 := kb BK701 hb
     replace BK711 := kb BK711 hb
     replace HK := ak (KeepBut.trans (kh HK.out) (KeepBut.of_below hb g none) (.inl rfl))
     replace HB := ak (below_step bi_ hb)
     replace HI0 := ak (IsS109.below is_ hb)
     clear hb ho55
     obtain ⟨Ao56, co56, eo56⟩ := Kd.R_slice HO724.out
     (first | subst eo56 | (injection eo56 with f1_ f2_ f3_; have f4_ := f1_.symm; have f5_ := f3_.symm; clear f1_ f2_ f3_; subst f4_; subst f5_))
     refine hK.out _ _ sx (fun hHeld => ?_)
     clear hK K
     refine norm_ (a' := ?_) ?_ ?_
     rotate_left
     ·
      show Act.put _ (some 25) _ = _
      simp only [Act.put, l_a, l_b, l_c, i64_w, i32_w]
      rfl
     refine two_ (i := 4) (j := 6) (Ni := some 26) (Nj := some 28) #[true, true, true, true, true, true, false, false, false, false, false, false, false] #[true, true, true, true, false, true, true, false, false, false, false, false, false] rfl rfl rfl rfl (two_of HT_.out (by kernel_rfl)) (by decide) (by decide) (fun K hK => ?_) (fun K hK => ?_)
     ·
      skip
      refine goes_ Tryz.func58 (by kernel_rfl) rfl #[.pointer (some ⟨g, 0, none⟩), .slice Ao56 y722.length co56] (by rfl) rfl rfl ma ?_
      with_reducible refine (spec_l13Rd_of.calls w0 ?side1 ?side2 ?side3 ?side4 ?side5 A35.out).mono ?_
      (case side1 => exact is_)
      (case side2 => exact bi_)
      (case side3 => repeat (first | exact (Kd.R_reads' HO724.out).2.2 | (with_reducible refine Kd.C_alloc ?_ _) | (with_reducible refine Kd.C_drewN ?_ _) | (with_reducible refine Kd.C_drew ?_)))
      (case side4 => exact (Kd.R_reads' HO724.out).2.1)
      (case side5 => exact far_slice (IsS109.own_ne HI0.out HO724.out (by decide)))
      rintro e w57 ⟨rfl, hi, hb, hk⟩
      refine ⟨_, rfl, ?_⟩
      replace BK700 := kc BK700 hk NB700_0
      replace BK701 := kc BK701 hk NB701_0
      replace HO704 := ki (w0 := w0) (f0 := s0_0) (f1 := t713) HO704 hk
      replace HO707 := ki (w0 := w0) (f0 := s0_0) (f1 := t713) HO707 hk
      replace HO710 := ki (w0 := w0) (f0 := s0_0) (f1 := t713) HO710 hk
      replace BK711 := kc BK711 hk NB711_0
      replace HO724 := ki (w0 := w0) (f0 := s0_0) (f1 := t713) HO724 hk
      replace HK := kt HK hk
      replace HB := ak (hb)
      replace HI0 := ak (hi)
      try clear hb
      try clear hk
      try clear hi
      refine hK.out _ _ sx (fun hHeld => ?_)
      clear hK K
      refine norm_ (a' := ?_) ?_ ?_
      rotate_left
      ·
       show Act.put _ (some 26) _ = _
       simp only [Act.put, l_a, l_b, l_c, i64_w, i32_w]
       rfl
      refine one_ (i := 6) (N := some 28) #[true, true, true, true, true, true, true, false, false, false, false, false, false] rfl rfl (one_of HT_.out (by kernel_rfl)) (by decide) (fun K hK => ?_)
      refine Kd.R_lit_step Kd.string _ 9 ?hg (N := 28) ?hd (xs := ([(⟨#[32, 120]⟩ : ByteArray), (⟨#[120]⟩ : ByteArray)] : List ByteArray)) (inner := [.string (⟨#[32, 120]⟩ : ByteArray), .string (⟨#[120]⟩ : ByteArray)]) (ok := fun _ => True) (okp := fun _ => True) ?hr ?hp (fun _ hk => hk) trivial (Below.refl _ _) (Nat.le_refl _) (by simp) ?_; (case hd => rfl); (case hg => rfl); (case hr => first | (go_simp; done) | (go_simp; rfl)); (case hp => exact (Reps.one (show Kd.M Kd.string _ _ _ (⟨#[32, 120]⟩ : ByteArray) [.string (⟨#[32, 120]⟩ : ByteArray)] from rfl) (Reps.one (show Kd.M Kd.string _ _ _ (⟨#[120]⟩ : ByteArray) [.string (⟨#[120]⟩ : ByteArray)] from rfl) (Reps.none _ _))))
      intro v728 w58 ho59 hb hg_ hnew_
      clear hg_ hnew_
      (first | rw [← Ny727.out] at ho59 | (simp only [Int.reduceToNat] at ho59; rw [← Ny727.out] at ho59))
      have HO729 := ak (Kd.R_lower (Kd.R_new' (Kd.R_new' ho59 (Kd.R_lt (ur HO707.out))) (Kd.R_lt (ur HO724.out))) (keep_size (w := w) (g := g) (row := none) (kh HK.out)))
      replace HO704 := rb HO704 hb
      replace HO707 := ak (Kd.R_elder' (ur HO707.out) (Kd.R_base ho59) hb)
      replace HO710 := ak (Kd.R_elder' (ur HO710.out) (Kd.R_base ho59) hb)
      replace HO724 := ak (Kd.R_elder' (ur HO724.out) (Kd.R_base ho59) hb)
      replace BK700 := kb BK700 hb
      replace BK701 := kb BK701 hb
      replace BK711 := kb BK711 hb
      replace HK := ak (KeepBut.trans (kh HK.out) (KeepBut.of_below hb g none) (.inl rfl))
      replace HB := ak (below_step bi_ hb)
      replace HI0 := ak (IsS109.below is_ hb)
      clear hb ho59
      refine hK.out _ _ sx (fun hHeld => ?_)
      clear hK K
      refine norm_ (a' := ?_) ?_ ?_
      rotate_left
      ·
       show Act.put _ (some 28) _ = _
       simp only [Act.put, l_a, l_b, l_c, i64_w, i32_w]
       rfl
      exact norm_ (by simp only [putAll, Act.put, l_a, l_b, l_c]) (hCont (.slice Ao56 y722.length co56, v728) _ ⟨hHeld, (ur HO704.out), (ur (Kd.R_mono HO707.out (fun _ hk => ⟨hk.1.2, hk.2⟩))), (ur (Kd.R_mono HO710.out (fun _ hk => ⟨hk.1.1.1.1.1.1, ⟨hk.1.1.1.1.1.2, ⟨hk.1.2, ⟨hk.2, ⟨hk.1.1.1.1.2, ⟨hk.1.1.1.2, hk.1.1.2⟩⟩⟩⟩⟩⟩))), (ur (Kd.R_mono HO724.out (fun _ hk => ⟨hk.1.2, hk.2⟩))), (ur (Kd.R_mono HO729.out (fun _ hk => ⟨hk.1.2, hk.2⟩))), (ub BK700.out), (ub BK701.out), (ub BK711.out), is_, (kh HK.out), bi_⟩)
     ·
      skip
      refine Kd.R_lit_step Kd.string _ 9 ?hg (N := 28) ?hd (xs := ([(⟨#[32, 120]⟩ : ByteArray), (⟨#[120]⟩ : ByteArray)] : List ByteArray)) (inner := [.string (⟨#[32, 120]⟩ : ByteArray), .string (⟨#[120]⟩ : ByteArray)]) (ok := fun _ => True) (okp := fun _ => True) ?hr ?hp (fun _ hk => hk) trivial (Below.refl _ _) (Nat.le_refl _) (by simp) ?_; (case hd => rfl); (case hg => rfl); (case hr => first | (go_simp; done) | (go_simp; rfl)); (case hp => exact (Reps.one (show Kd.M Kd.string _ _ _ (⟨#[32, 120]⟩ : ByteArray) [.string (⟨#[32, 120]⟩ : ByteArray)] from rfl) (Reps.one (show Kd.M Kd.string _ _ _ (⟨#[120]⟩ : ByteArray) [.string (⟨#[120]⟩ : ByteArray)] from rfl) (Reps.none _ _))))
      intro v728 w56 ho57 hb hg_ hnew_
      clear hg_ hnew_
      (first | rw [← Ny727.out] at ho57 | (simp only [Int.reduceToNat] at ho57; rw [← Ny727.out] at ho57))
      have HO729 := ak (Kd.R_lower (Kd.R_new' (Kd.R_new' ho57 (Kd.R_lt (ur HO707.out))) (Kd.R_lt (ur HO724.out))) (keep_size (w := w) (g := g) (row := none) (kh HK.out)))
      replace HO704 := rb HO704 hb
      replace HO707 := ak (Kd.R_elder' (ur HO707.out) (Kd.R_base ho57) hb)
      replace HO710 := ak (Kd.R_elder' (ur HO710.out) (Kd.R_base ho57) hb)
      replace HO724 := ak (Kd.R_elder' (ur HO724.out) (Kd.R_base ho57) hb)
      replace BK700 := kb BK700 hb
      replace BK701 := kb BK701 hb
      replace BK711 := kb BK711 hb
      replace HK := ak (KeepBut.trans (kh HK.out) (KeepBut.of_below hb g none) (.inl rfl))
      replace HB := ak (below_step bi_ hb)
      replace HI0 := ak (IsS109.below is_ hb)
      clear hb ho57
      obtain ⟨Ao58, co58, eo58⟩ := Kd.R_slice HO724.out
      (first | subst eo58 | (injection eo58 with f1_ f2_ f3_; have f4_ := f1_.symm; have f5_ := f3_.symm; clear f1_ f2_ f3_; subst f4_; subst f5_))
      refine hK.out _ _ sx (fun hHeld => ?_)
      clear hK K
      refine norm_ (a' := ?_) ?_ ?_
      rotate_left
      ·
       show Act.put _ (some 28) _ = _
       simp only [Act.put, l_a, l_b, l_c, i64_w, i32_w]
       rfl
      refine one_ (i := 4) (N := some 26) #[true, true, true, true, true, true, true, false, false, false, false, false, false] rfl rfl (one_of HT_.out (by kernel_rfl)) (by decide) (fun K hK => ?_)
      refine goes_ Tryz.func58 (by kernel_rfl) rfl #[.pointer (some ⟨g, 0, none⟩), .slice Ao58 y722.length co58] (by rfl) rfl rfl ma ?_
      with_reducible refine (spec_l13Rd_of.calls w0 ?side1 ?side2 ?side3 ?side4 ?side5 A35.out).mono ?_
      (case side1 => exact is_)
      (case side2 => exact bi_)
      (case side3 => repeat (first | exact (Kd.R_reads' HO724.out).2.2 | (with_reducible refine Kd.C_alloc ?_ _) | (with_reducible refine Kd.C_drewN ?_ _) | (with_reducible refine Kd.C_drew ?_)))
      (case side4 => exact (Kd.R_reads' HO724.out).2.1)
      (case side5 => exact far_slice (IsS109.own_ne HI0.out HO724.out (by decide)))
      rintro e w59 ⟨rfl, hi, hb, hk⟩
      refine ⟨_, rfl, ?_⟩
      replace BK700 := kc BK700 hk NB700_0
      replace BK701 := kc BK701 hk NB701_0
      replace HO704 := ki (w0 := w0) (f0 := s0_0) (f1 := t713) HO704 hk
      replace HO707 := ki (w0 := w0) (f0 := s0_0) (f1 := t713) HO707 hk
      replace HO710 := ki (w0 := w0) (f0 := s0_0) (f1 := t713) HO710 hk
      replace BK711 := kc BK711 hk NB711_0
      replace HO724 := ki (w0 := w0) (f0 := s0_0) (f1 := t713) HO724 hk
      replace HO729 := ki (w0 := w0) (f0 := s0_0) (f1 := t713) HO729 hk
      replace HK := kt HK hk
      replace HB := ak (hb)
      replace HI0 := ak (hi)
      try clear hb
      try clear hk
      try clear hi
      refine hK.out _ _ sx (fun hHeld => ?_)
      clear hK K
      refine norm_ (a' := ?_) ?_ ?_
      rotate_left
      ·
       show Act.put _ (some 26) _ = _
       simp only [Act.put, l_a, l_b, l_c, i64_w, i32_w]
       rfl
      exact norm_ (by simp only [putAll, Act.put, l_a, l_b, l_c]) (hCont (.slice Ao58 y722.length co58, v728) _ ⟨hHeld, (ur HO704.out), (ur (Kd.R_mono HO707.out (fun _ hk => ⟨hk.1.2, hk.2⟩))), (ur (Kd.R_mono HO710.out (fun _ hk => ⟨hk.1.1.1.1.1.1, ⟨hk.1.1.1.1.1.2, ⟨hk.1.2, ⟨hk.2, ⟨hk.1.1.1.1.2, ⟨hk.1.1.1.2, hk.1.1.2⟩⟩⟩⟩⟩⟩))), (ur (Kd.R_mono HO724.out (fun _ hk => ⟨hk.1.2, hk.2⟩))), (ur (Kd.R_mono HO729.out (fun _ hk => ⟨hk.1.2, hk.2⟩))), (ub BK700.out), (ub BK701.out), (ub BK711.out), is_, (kh HK.out), bi_⟩)
    ·
     skip
     refine Kd.R_lit_step Kd.string _ 9 ?hg (N := 28) ?hd (xs := ([(⟨#[32, 120]⟩ : ByteArray), (⟨#[120]⟩ : ByteArray)] : List ByteArray)) (inner := [.string (⟨#[32, 120]⟩ : ByteArray), .string (⟨#[120]⟩ : ByteArray)]) (ok := fun _ => True) (okp := fun _ => True) ?hr ?hp (fun _ hk => hk) trivial (Below.refl _ _) (Nat.le_refl _) (by simp) ?_; (case hd => rfl); (case hg => rfl); (case hr => first | (go_simp; done) | (go_simp; rfl)); (case hp => exact (Reps.one (show Kd.M Kd.string _ _ _ (⟨#[32, 120]⟩ : ByteArray) [.string (⟨#[32, 120]⟩ : ByteArray)] from rfl) (Reps.one (show Kd.M Kd.string _ _ _ (⟨#[120]⟩ : ByteArray) [.string (⟨#[120]⟩ : ByteArray)] from rfl) (Reps.none _ _))))
     intro v728 w54 ho55 hb hg_ hnew_
     clear hg_ hnew_
     (first | rw [← Ny727.out] at ho55 | (simp only [Int.reduceToNat] at ho55; rw [← Ny727.out] at ho55))
     have HO729 := ak (Kd.R_lower (Kd.R_new' ho55 (Kd.R_lt (ur HO707.out))) (keep_size (w := w) (g := g) (row := none) (kh HK.out)))
     replace HO704 := rb HO704 hb
     replace HO707 := ak (Kd.R_elder' (ur HO707.out) (Kd.R_base ho55) hb)
     replace HO710 := ak (Kd.R_elder' (ur HO710.out) (Kd.R_base ho55) hb)
     replace BK700 := kb BK700 hb
     replace BK701 := kb BK701 hb
     replace BK711 := kb BK711 hb
     replace HK := ak (KeepBut.trans (kh HK.out) (KeepBut.of_below hb g none) (.inl rfl))
     replace HB := ak (below_step bi_ hb)
     replace HI0 := ak (IsS109.below is_ hb)
     clear hb ho55
     refine hK.out _ _ sx (fun hHeld => ?_)
     clear hK K
     refine norm_ (a' := ?_) ?_ ?_
     rotate_left
     ·
      show Act.put _ (some 28) _ = _
      simp only [Act.put, l_a, l_b, l_c, i64_w, i32_w]
      rfl
     refine one_ (i := 3) (N := some 25) #[true, true, true, true, false, true, true, false, false, false, false, false, false] rfl rfl (one_of HT_.out (by kernel_rfl)) (by decide) (fun K hK => ?_)
     refine Kd.R_lit_step Kd.string _ 9 ?hg (N := 25) ?hd (xs := ([(⟨#[97, 32, 98]⟩ : ByteArray), (⟨#[79, 107]⟩ : ByteArray)] : List ByteArray)) (inner := [.string (⟨#[97, 32, 98]⟩ : ByteArray), .string (⟨#[79, 107]⟩ : ByteArray)]) (ok := fun _ => True) (okp := fun _ => True) ?hr ?hp (fun _ hk => hk) trivial (Below.refl _ _) (Nat.le_refl _) (by simp) ?_; (case hd => rfl); (case hg => rfl); (case hr => first | (go_simp; done) | (go_simp; rfl)); (case hp => exact (Reps.one (show Kd.M Kd.string _ _ _ (⟨#[97, 32, 98]⟩ : ByteArray) [.string (⟨#[97, 32, 98]⟩ : ByteArray)] from rfl) (Reps.one (show Kd.M Kd.string _ _ _ (⟨#[79, 107]⟩ : ByteArray) [.string (⟨#[79, 107]⟩ : ByteArray)] from rfl) (Reps.none _ _))))
     intro v723 w56 ho57 hb hg_ hnew_
     clear hg_ hnew_
     (first | rw [← Ny722.out] at ho57 | (simp only [Int.reduceToNat] at ho57; rw [← Ny722.out] at ho57))
     have HO724 := ak (Kd.R_lower (Kd.R_new' (Kd.R_new' ho57 (Kd.R_lt (ur HO707.out))) (Kd.R_lt (ur HO729.out))) (keep_size (w := w) (g := g) (row := none) (kh HK.out)))
     replace HO704 := rb HO704 hb
     replace HO707 := ak (Kd.R_elder' (ur HO707.out) (Kd.R_base ho57) hb)
     replace HO710 := ak (Kd.R_elder' (ur HO710.out) (Kd.R_base ho57) hb)
     replace HO729 := ak (Kd.R_elder' (ur HO729.out) (Kd.R_base ho57) hb)
     replace BK700 := kb BK700 hb
     replace BK701 := kb BK701 hb
     replace BK711 := kb BK711 hb
     replace HK := ak (KeepBut.trans (kh HK.out) (KeepBut.of_below hb g none) (.inl rfl))
     replace HB := ak (below_step bi_ hb)
     replace HI0 := ak (IsS109.below is_ hb)
     clear hb ho57
     obtain ⟨Ao58, co58, eo58⟩ := Kd.R_slice HO724.out
     (first | subst eo58 | (injection eo58 with f1_ f2_ f3_; have f4_ := f1_.symm; have f5_ := f3_.symm; clear f1_ f2_ f3_; subst f4_; subst f5_))
     refine hK.out _ _ sx (fun hHeld => ?_)
     clear hK K
     refine norm_ (a' := ?_) ?_ ?_
     rotate_left
     ·
      show Act.put _ (some 25) _ = _
      simp only [Act.put, l_a, l_b, l_c, i64_w, i32_w]
      rfl
     refine one_ (i := 4) (N := some 26) #[true, true, true, true, true, true, true, false, false, false, false, false, false] rfl rfl (one_of HT_.out (by kernel_rfl)) (by decide) (fun K hK => ?_)
     refine goes_ Tryz.func58 (by kernel_rfl) rfl #[.pointer (some ⟨g, 0, none⟩), .slice Ao58 y722.length co58] (by rfl) rfl rfl ma ?_
     with_reducible refine (spec_l13Rd_of.calls w0 ?side1 ?side2 ?side3 ?side4 ?side5 A35.out).mono ?_
     (case side1 => exact is_)
     (case side2 => exact bi_)
     (case side3 => repeat (first | exact (Kd.R_reads' HO724.out).2.2 | (with_reducible refine Kd.C_alloc ?_ _) | (with_reducible refine Kd.C_drewN ?_ _) | (with_reducible refine Kd.C_drew ?_)))
     (case side4 => exact (Kd.R_reads' HO724.out).2.1)
     (case side5 => exact far_slice (IsS109.own_ne HI0.out HO724.out (by decide)))
     rintro e w59 ⟨rfl, hi, hb, hk⟩
     refine ⟨_, rfl, ?_⟩
     replace BK700 := kc BK700 hk NB700_0
     replace BK701 := kc BK701 hk NB701_0
     replace HO704 := ki (w0 := w0) (f0 := s0_0) (f1 := t713) HO704 hk
     replace HO707 := ki (w0 := w0) (f0 := s0_0) (f1 := t713) HO707 hk
     replace HO710 := ki (w0 := w0) (f0 := s0_0) (f1 := t713) HO710 hk
     replace BK711 := kc BK711 hk NB711_0
     replace HO729 := ki (w0 := w0) (f0 := s0_0) (f1 := t713) HO729 hk
     replace HO724 := ki (w0 := w0) (f0 := s0_0) (f1 := t713) HO724 hk
     replace HK := kt HK hk
     replace HB := ak (hb)
     replace HI0 := ak (hi)
     try clear hb
     try clear hk
     try clear hi
     refine hK.out _ _ sx (fun hHeld => ?_)
     clear hK K
     refine norm_ (a' := ?_) ?_ ?_
     rotate_left
     ·
      show Act.put _ (some 26) _ = _
      simp only [Act.put, l_a, l_b, l_c, i64_w, i32_w]
      rfl
     exact norm_ (by simp only [putAll, Act.put, l_a, l_b, l_c]) (hCont (.slice Ao58 y722.length co58, v728) _ ⟨hHeld, (ur HO704.out), (ur (Kd.R_mono HO707.out (fun _ hk => ⟨hk.2, hk.1.2⟩))), (ur (Kd.R_mono HO710.out (fun _ hk => ⟨hk.1.1.1.1.1.1, ⟨hk.1.1.1.1.1.2, ⟨hk.2, ⟨hk.1.2, ⟨hk.1.1.1.1.2, ⟨hk.1.1.1.2, hk.1.1.2⟩⟩⟩⟩⟩⟩))), (ur (Kd.R_mono HO724.out (fun _ hk => ⟨hk.1.2, hk.2⟩))), (ur (Kd.R_mono HO729.out (fun _ hk => ⟨hk.1.2, hk.2⟩))), (ub BK700.out), (ub BK701.out), (ub BK711.out), is_, (kh HK.out), bi_⟩)
   rintro ⟨v723, v728⟩ w60 ⟨hS_, h0_, h1_, h2_, h3_, h4_, h5_, h6_, h7_, h8_, h9_, h10_⟩
   have n0_ : Aside0 (Kd.R k69 69 w60 w.heap.size (fun _ => True) (.slice Ao45 t702.length co45) t702) := ⟨h0_⟩
   have n1_ : Aside0 (Kd.R Kd.string 9 w60 w.heap.size (fun k_ => some k_ ≠ (v723 : Value).ownBlock ∧ some k_ ≠ (v728 : Value).ownBlock) (.slice Ao50 t705.length co50) t705) := ⟨h1_⟩
   have n2_ : Aside0 (Kd.R k28 28 w60 w.heap.size (fun k_ => some k_ ≠ (.slice Ao45 t702.length co45 : Value).ownBlock ∧ some k_ ≠ (.slice Ao50 t705.length co50 : Value).ownBlock ∧ some k_ ≠ (v723 : Value).ownBlock ∧ some k_ ≠ (v728 : Value).ownBlock ∧ k_ ≠ gb700 ∧ k_ ≠ gb701 ∧ k_ ≠ gb711) (.slice Ao51 t708.length co51) t708) := ⟨h2_⟩
   have n3_ : Aside0 (Kd.R Kd.string 9 w60 w.heap.size (fun k_ => some k_ ≠ (.slice Ao50 t705.length co50 : Value).ownBlock ∧ some k_ ≠ (v728 : Value).ownBlock) v723 y722) := ⟨h3_⟩
   have n4_ : Aside0 (Kd.R Kd.string 9 w60 w.heap.size (fun k_ => some k_ ≠ (.slice Ao50 t705.length co50 : Value).ownBlock ∧ some k_ ≠ (v723 : Value).ownBlock) v728 y727) := ⟨h4_⟩
   have n5_ : Aside0 (w60.heap[gb700]? = some (.cells #[.slice A1_0 l1_0.length c1_0, .slice A1_1 l1_1.length c1_1, .slice A1_2 l1_2.length c1_2] 28 (0, 0))) := ⟨h5_⟩
   have n6_ : Aside0 (w60.heap[gb701]? = some (.cells #[.slice none 0 0, .slice none 0 0, .slice none 0 0] 28 (0, 0))) := ⟨h6_⟩
   have n7_ : Aside0 (w60.heap[gb711]? = some (.cells #[.slice Ao45 t702.length co45, .slice Ao50 t705.length co50, .slice Ao51 t708.length co51] 28 (0, 0))) := ⟨h7_⟩
   have n8_ : Aside0 (IsS109 w0 w60 g s0_0 t726) := ⟨h8_⟩
   have n9_ : Aside0 (KeepBut w w60 g none) := ⟨h9_⟩
   have n10_ : Aside0 (Below w0.heap.size w0 w60) := ⟨h10_⟩
   clear HO704 HO707 HO710 BK700 BK701 BK711 HI0 HK HB h0_ h1_ h2_ h3_ h4_ h5_ h6_ h7_ h8_ h9_ h10_
   have HO704 := n0_
   have HO707 := n1_
   have HO710 := n2_
   have HO724 := n3_
   have HO729 := n4_
   have BK700 := n5_
   have BK701 := n6_
   have BK711 := n7_
   have HI0 := n8_
   have HK := n9_
   have HB := n10_
   clear n0_ n1_ n2_ n3_ n4_ n5_ n6_ n7_ n8_ n9_ n10_
   have hHeld : w60.cell? ⟨gb711, 0, none⟩ = some (.slice Ao45 t702.length co45) ∧ w60.cell? ⟨gb711, 1, none⟩ = some (.slice Ao50 t705.length co50) ∧ w60.cell? ⟨gb711, 2, none⟩ = some (.slice Ao51 t708.length co51) := hS_
   obtain ⟨Ao61, co61, eo61⟩ := Kd.R_slice HO729.out
   (first | subst eo61 | (injection eo61 with f1_ f2_ f3_; have f4_ := f1_.symm; have f5_ := f3_.symm; clear f1_ f2_ f3_; subst f4_; subst f5_))
   refine norm_ (a' := ?_) ?_ ?_
   rotate_left
   ·
    simp only [putAll, Act.put, l_a, l_b, l_c]
    rfl
   refine one_ (i := 7) (N := some 29) #[true, true, true, true, true, true, true, true, false, false, false, false, false] rfl rfl (one_of HT_.out (by kernel_rfl)) (by decide) (fun K hK => ?_)
   refine goes_ Tryz.func58 (by kernel_rfl) rfl #[.pointer (some ⟨g, 0, none⟩), .slice Ao61 y727.length co61] (by rfl) rfl rfl ma ?_
   with_reducible refine (spec_l13Rd_of.calls w0 ?side1 ?side2 ?side3 ?side4 ?side5 A36.out).mono ?_
   (case side1 => exact is_)
   (case side2 => exact bi_)
   (case side3 => repeat (first | exact (Kd.R_reads' HO729.out).2.2 | (with_reducible refine Kd.C_alloc ?_ _) | (with_reducible refine Kd.C_drewN ?_ _) | (with_reducible refine Kd.C_drew ?_)))
   (case side4 => exact (Kd.R_reads' HO729.out).2.1)
   (case side5 => exact far_slice (IsS109.own_ne HI0.out HO729.out (by decide)))
   rintro e w62 ⟨rfl, hi, hb, hk⟩
   refine ⟨_, rfl, ?_⟩
   replace BK700 := kc BK700 hk NB700_0
   replace BK701 := kc BK701 hk NB701_0
   replace HO704 := ki (w0 := w0) (f0 := s0_0) (f1 := t726) HO704 hk
   replace HO707 := ki (w0 := w0) (f0 := s0_0) (f1 := t726) HO707 hk
   replace HO710 := ki (w0 := w0) (f0 := s0_0) (f1 := t726) HO710 hk
   replace BK711 := kc BK711 hk NB711_0
   replace HO724 := ki (w0 := w0) (f0 := s0_0) (f1 := t726) HO724 hk
   replace HO729 := ki (w0 := w0) (f0 := s0_0) (f1 := t726) HO729 hk
   replace HK := kt HK hk
   replace HB := ak (hb)
   replace HI0 := ak (hi)
   try clear hb
   try clear hk
   try clear hi
   refine hK.out _ _ sx (fun hHeld => ?_)
   clear hK K
   refine norm_ (a' := ?_) ?_ ?_
   rotate_left
   ·
    show Act.put _ (some 29) _ = _
    simp only [Act.put, l_a, l_b, l_c, i64_w, i32_w]
    rfl
   refine pure_ (i := 8) (N := some 30) (v := ?_) (a' := ?_) #[true, true, true, true, true, true, true, true, true, false, false, false, false] rfl rfl (any_of HT_.out (by kernel_rfl)) (fun _ _ _ h => h) (Or.inl ⟨by rfl, ?_⟩) ?_ ?_
   rotate_left
   ·
    intro w'
    go_simp
    with_reducible rfl
   rotate_left
   ·
    simp only [Act.put, l_a, l_b, l_c, i64_w, i32_w]
    rfl
   refine one_ (i := 9) (N := some 31) #[true, true, true, true, true, true, true, true, true, true, false, false, false] rfl rfl (one_of HT_.out (by kernel_rfl)) (by decide) (fun K hK => ?_)
   refine value_ (w1 := ?_) (v := ?_) (by rfl) rfl ?_ ?_
   rotate_left 2
   ·
    go_simp
    constructor
    ·
     rfl
    ·
     rfl
   refine hK.out _ _ ⟨(blk_cell (blk_alloc BK711.out _) 0).trans rfl, (blk_cell (blk_alloc BK711.out _) 1).trans rfl, (blk_cell (blk_alloc BK711.out _) 2).trans rfl⟩ (fun hHeld => ?_)
   clear hK K
   refine norm_ (a' := ?_) ?_ ?_
   rotate_left
   ·
    show Act.put _ (some 31) _ = _
    simp only [Act.put, l_a, l_b, l_c, i64_w, i32_w]
    rfl
   refine one_ (i := 10) (N := some 32) #[true, true, true, true, true, true, true, true, true, true, true, false, false] rfl rfl (one_of HT_.out (by kernel_rfl)) (by decide) (fun K hK => ?_)
   refine Kd.R_append_step k69 w.heap.size (by rfl) (.tmp 23) (.tmp 31) 25 69 (.agg #[(.string ⟨#[]⟩), (.string ⟨#[]⟩)]) 32 rfl Tryz.underlying25 info69 rfl (by decide) (by omega) (.slice Ao45 t702.length co45) t702 (⟨t725, t730⟩ : S69) [.string t725, .string t730] (fun _ => True) (fun _ => False) rfl rfl ?aP (fun _ hk => hk.elim) ?aF ?aO (Below.refl _ _) ?aS ?aL ?_
   (case aP => exact k69_mkM _ _ _ (⟨t725, t730⟩ : S69))
   (case aF => exact (fun _ _ => trivial))
   (case aO => exact (ur HO704.out))
   (case aS => exact (keep_size (w := w) (g := g) (row := none) (kh HK.out)))
   (case aL => have := LMc37.out; omega)
   intro v733 w63 ho hb hg hat
   rw [← Ny732.out] at ho
   have n0_ := ak (IsS109.grown is_ hg (IsS109.own_ne HI0.out HO704.out (by decide)))
   have n1_ := ak (blk_grown (g := gb700) (o := .cells #[.slice A1_0 l1_0.length c1_0, .slice A1_1 l1_1.length c1_1, .slice A1_2 l1_2.length c1_2] 28 (0, 0)) (ub BK700.out) hg (Kd.R_ne HO704.out BK700.out (by decide)))
   have n2_ := ak (blk_grown (g := gb701) (o := .cells #[.slice none 0 0, .slice none 0 0, .slice none 0 0] 28 (0, 0)) (ub BK701.out) hg (Kd.R_ne HO704.out BK701.out (by decide)))
   have n3_ := ak (Kd.R_over' (ur HO707.out) (Kd.R_typed (ur HO704.out)) (by decide) hg)
   have n4_ := ak (Kd.R_after (ok := (fun k_ => some k_ ≠ (.slice Ao50 t705.length co50 : Value).ownBlock ∧ some k_ ≠ (v723 : Value).ownBlock ∧ some k_ ≠ (.slice Ao61 y727.length co61 : Value).ownBlock ∧ k_ ≠ gb700 ∧ k_ ≠ gb701 ∧ k_ ≠ gb711)) (ur (Kd.R_mono HO710.out (fun _ hk => ⟨⟨hk.2.1, ⟨hk.2.2.1, ⟨hk.2.2.2.1, ⟨hk.2.2.2.2.1, ⟨hk.2.2.2.2.2.1, hk.2.2.2.2.2.2⟩⟩⟩⟩⟩, hk.1⟩))) hg hat)
   have n5_ := ak (blk_grown (g := gb711) (o := .cells #[.slice Ao45 t702.length co45, .slice Ao50 t705.length co50, .slice Ao51 t708.length co51] 28 (0, 0)) (ub BK711.out) hg (Kd.R_ne HO704.out BK711.out (by decide)))
   have n6_ := ak (Kd.R_over' (ur HO724.out) (Kd.R_typed (ur HO704.out)) (by decide) hg)
   have n7_ := ak (Kd.R_over' (ur HO729.out) (Kd.R_typed (ur HO704.out)) (by decide) hg)
   have n8_ := ak (below_weaken bi_ HL.out hb)
   have n9_ := ak (KeepBut.trans (kh HK.out) (KeepBut.of_grown hg g) (Kd.R_base2 HO704.out))
   have n10_ := ak (ho)
   clear HI0 BK700 BK701 HO707 HO710 BK711 HO724 HO729 HB HK HO704
   have HI0 := n0_
   have BK700 := n1_
   have BK701 := n2_
   have HO707 := n3_
   have HO710 := n4_
   have BK711 := n5_
   have HO724 := n6_
   have HO729 := n7_
   have HB := n8_
   have HK := n9_
   have HO734 := n10_
   clear n0_ n1_ n2_ n3_ n4_ n5_ n6_ n7_ n8_ n9_ n10_ ho hb hg hat
   obtain ⟨Ao64, co64, eo64⟩ := Kd.R_slice HO734.out
   (first | subst eo64 | (injection eo64 with f1_ f2_ f3_; have f4_ := f1_.symm; have f5_ := f3_.symm; clear f1_ f2_ f3_; subst f4_; subst f5_))
   refine hK.out _ _ sx (fun hHeld => ?_)
   clear hK K
   refine norm_ (a' := ?_) ?_ ?_
   rotate_left
   ·
    show Act.put _ (some 32) _ = _
    simp only [Act.put, l_a, l_b, l_c, i64_w, i32_w]
    rfl
   refine pure_ (i := 11) (N := some 33) (v := ?_) (a' := ?_) #[true, true, true, true, true, true, true, true, true, true, true, true, false] rfl rfl (any_of HT_.out (by kernel_rfl)) (fun _ _ _ h => h) (Or.inl ⟨by rfl, ?_⟩) ?_ ?_
   rotate_left
   ·
    intro w'
    go_simp
    with_reducible rfl
   rotate_left
   ·
    simp only [Act.put, l_a, l_b, l_c, i64_w, i32_w]
    rfl
   refine last_ (i := 12) (N := none) #[true, true, true, true, true, true, true, true, true, true, true, true, true] rfl rfl (one_of HT_.out (by kernel_rfl)) (by decide) (fun K hK => ?_)
   have hs65 : w63.cell? ⟨gb711, 0, none⟩ = some (.slice Ao45 t702.length co45) := (blk_cell BK711.out 0).trans rfl
   have hfs65 := blk_frozen BK711.out 0
   have hns65_0 := NB700_711.out
   have hns65_1 := NB701_711.out
   have hms65_0 := NB711_700.out
   have hms65_1 := NB711_701.out
   refine skip_ (w1 := ?_) (by rfl) rfl ?_ ?_
   rotate_left
   ·
    go_simp
    rfl
   refine hK.out _ _ ?_
   clear hK K
   refine done_ (done_of HT_.out (by kernel_rfl)) ?_
   have z66 := cz3 BK711.out
   have hnb67 := NB701_0.out
   have hnc67 := NB0_701.out
   have z68 := cz3 BK701.out
   try go_wp2
   refine bodyPost_ret (results_cell_row rfl _ _ gb701 28 #[.slice Ao64 y732.length co64, .slice Ao50 t705.length co50, .slice Ao51 t708.length co51] (0, 0) _ rfl bq Tryz.underlying28 rfl (by kernel_rfl)) rfl ?_
   exact ⟨_, _, _, er, rr, rr, rr, is_, bi_, kh HK.out⟩
  ·
   replace H := sq H
   rcases H with ⟨c69b0, c69b1, H⟩ | ⟨c69, c69b0, c69b1, H⟩
   ·
    replace H := bd H
    obtain ⟨⟨t735, t738, t741, t744⟩, A70, H⟩ := H
    (try dsimp only at H)
    replace H := nl H; obtain ⟨LMc71, H⟩ := H
    obtain ⟨y745, Ny745⟩ := nm (t708 ++ [(⟨t735, t738, t741⟩ : S28)])
    rw [← Ny745.out] at H
    obtain ⟨rfl, rfl, rfl, rfl⟩ := s4 H
    go_enter Tryz.func68, Tryz.ntmps68
    try go_wp2_with (first | (refine bS HI0 HK HB HW0 3 #[.slice A1_0 l1_0.length c1_0, .slice A1_1 l1_1.length c1_1, .slice A1_2 l1_2.length c1_2] 28 ?_; clear HI0 HK HB; intro gb700 w72 BK700 GW700 GE700 NB0_700 NB700_0 hg hb HI0 HK HB; clear hb hg) | (refine bS HI0 HK HB HW0 4 #[.slice none 0 0, .slice none 0 0, .slice none 0 0] 28 ?_; clear HI0 HK HB; intro gb701 w73 BK701 GW701 GE701 NB0_701 NB701_0 hg hb HI0 HK HB; have NB700_701 := nl_ BK700 hg; have NB701_700 := ng_ BK700 hg; replace BK700 := kb BK700 hb; clear hb hg; have hnb74 := NB700_701.out; have hnc74 := NB701_700.out; have hnb75 := NB700_0.out; have hnc75 := NB0_700.out; have z76 := cz3 BK700.out) | (refine gL 110 7 Tryz.func110 #[.agg #[.slice A1_0 l1_0.length c1_0, .slice A1_1 l1_1.length c1_1, .slice A1_2 l1_2.length c1_2]] ?_; (with_reducible refine (spec_l8Copy.calls k _ _ l1_0 _ _ l1_1 _ _ l1_2 t702 t705 t708 _ (Kd.C_foot_now HR1_0.out (kh HK.out)) HC1_0.out (by with_unfolding_all exact Kd.C_keep (⟨#[]⟩ : ByteArray) HR1_1.out (kh HK.out) hf1_1) HC1_1.out (Kd.C_foot_now HR1_2.out (kh HK.out)) HC1_2.out A3.out).mono ?_); rintro e w77 ⟨v703, v706, v709, rfl, ho0, ho1, ho2, hb⟩; refine ⟨_, rfl, ?_⟩; have HO704 := ak (Kd.R_lower ho0 (keep_size (w := w) (g := g) (row := none) (kh HK.out))); have HO707 := ak (Kd.R_lower ho1 (keep_size (w := w) (g := g) (row := none) (kh HK.out))); have HO710 := ak (Kd.R_lower (Kd.R_newB (Kd.R_newB ho2 (g := gb700) (o := .cells #[.slice A1_0 l1_0.length c1_0, .slice A1_1 l1_1.length c1_1, .slice A1_2 l1_2.length c1_2] 28 (0, 0)) (ub BK700.out)) (g := gb701) (o := .cells #[.slice none 0 0, .slice none 0 0, .slice none 0 0] 28 (0, 0)) (ub BK701.out)) (keep_size (w := w) (g := g) (row := none) (kh HK.out))); replace BK700 := kb BK700 hb; replace BK701 := kb BK701 hb; replace HK := ak (KeepBut.trans (kh HK.out) (KeepBut.of_below hb g none) (.inl rfl)); replace HB := ak (below_step bi_ hb); replace HI0 := ak (IsS109.below is_ hb); clear hb; (try clear ho0); (try clear ho1); (try clear ho2)) | (refine bS HI0 HK HB HW0 5 #[.slice none 0 0, .slice none 0 0, .slice none 0 0] 28 ?_; clear HI0 HK HB; intro gb711 w78 BK711 GW711 GE711 NB0_711 NB711_0 hg hb HI0 HK HB; have NB700_711 := nl_ BK700 hg; have NB711_700 := ng_ BK700 hg; have NB701_711 := nl_ BK701 hg; have NB711_701 := ng_ BK701 hg; replace HO704 := rb HO704 hb; replace HO707 := rb HO707 hb; replace HO710 := ak (Kd.R_below (Kd.R_elderB (ur HO710.out) gb711 (Nat.le_of_eq hg.symm)) hb); replace BK700 := kb BK700 hb; replace BK701 := kb BK701 hb; clear hb hg; obtain ⟨Ao79, co79, eo79⟩ := Kd.R_slice HO704.out; subst eo79; have hnb80 := NB711_700.out; have hnc80 := NB700_711.out; have hnb81 := NB711_701.out; have hnc81 := NB701_711.out; have hnb82 := NB711_0.out; have hnc82 := NB0_711.out; have z83 := cz3 BK711.out; obtain ⟨Ao84, co84, eo84⟩ := Kd.R_slice HO707.out; subst eo84; obtain ⟨Ao85, co85, eo85⟩ := Kd.R_slice HO710.out; subst eo85) | (refine gL 57 9 Tryz.func57 #[.pointer (some ⟨g, 0, none⟩), .int .i64 20] ?_; (with_reducible refine (spec_l13Rd_pick.calls w0 ?side1 ?side2 A4.out).mono ?_); (case side1 => exact is_); (case side2 => exact bi_); rintro e w86 ⟨rfl, hi, hb, hk⟩; refine ⟨_, rfl, ?_⟩; replace BK700 := kd_ BK700 #[.slice A1_0 l1_0.length c1_0, .slice A1_1 l1_1.length c1_1, .slice A1_2 l1_2.length c1_2] hk NB700_0; replace BK701 := kd_ BK701 #[.slice none 0 0, .slice none 0 0, .slice none 0 0] hk NB701_0; replace HO704 := ki (w0 := w0) (f0 := s0_0) (f1 := s0_1) HO704 hk; replace HO707 := ki (w0 := w0) (f0 := s0_0) (f1 := s0_1) HO707 hk; replace HO710 := ak (Kd.R_mono (Kd.R_keep (IsS109.apart (show IsS109 w0 _ g s0_0 s0_1 from is_) (ur (Kd.R_mono (Kd.R_far (p := ⟨gb711, 2, none⟩) (Kd.R_far (p := ⟨gb711, 1, none⟩) (Kd.R_far (p := ⟨gb711, 0, none⟩) (Kd.R_mono HO710.out (fun k_ hk => (⟨hk, hk.2⟩ : _ ∧ k_ ≠ gb711))) (fun _ hk => hk.2) (.slice Ao79 t702.length co79)) (fun _ hk => hk.2) (.slice Ao84 t705.length co84)) (fun _ hk => hk.2) (.slice Ao85 t708.length co85)) (fun _ h_ => h_.1))) (by decide)) hk (fun _ h => h.2)) (fun _ h => h.1)); replace BK711 := kd_ BK711 #[.slice Ao79 t702.length co79, .slice Ao84 t705.length co84, .slice Ao85 t708.length co85] hk NB711_0; replace HK := kt HK hk; replace HB := ak (hb); replace HI0 := ak (hi); clear hb; (try clear hk); (try clear hi)))
    replace HO704 := ak (Kd.R_drew HO704.out)
    replace HO707 := ak (Kd.R_drew HO707.out)
    replace HO710 := ak (Kd.R_drew HO710.out)
    replace BK700 := ak (blk_drew BK700.out)
    replace BK701 := ak (blk_drew BK701.out)
    replace BK711 := ak (blk_drew BK711.out)
    replace HI0 := ak (IsS109.drew HI0.out)
    replace HK := ak (keep_drew HK.out)
    replace HB := ak (below_drew1 HB.out)
    refine start_ (n := 8) (S := fun w' => w'.cell? ⟨gb711, 0, none⟩ = some (.slice Ao79 t702.length co79) ∧ w'.cell? ⟨gb711, 1, none⟩ = some (.slice Ao84 t705.length co84) ∧ w'.cell? ⟨gb711, 2, none⟩ = some (.slice Ao85 t708.length co85)) (ds := [7]) #[false, false, false, false, false, false, false, false] (by kernel_rfl) rfl rfl ⟨(blk_cell BK711.out 0).trans rfl, (blk_cell BK711.out 1).trans rfl, (blk_cell BK711.out 2).trans rfl⟩ (fun hHeld => ?_); refine with_tabW spec_l8Wrong.tab8 spec_l8Wrong.bits8 (fun HT_ HW_ => ?_)
    generalize w86.drew = w87 at HO704 HO707 HO710 BK700 BK701 BK711 HI0 HK HB hHeld ⊢
    refine pure_ (i := 0) (N := some 36) (v := ?_) (a' := ?_) #[true, false, false, false, false, false, false, false] rfl rfl (any_of HT_.out (by kernel_rfl)) (fun _ _ _ h => h) (Or.inl ⟨by rfl, ?_⟩) ?_ ?_
    rotate_left
    ·
     intro w'
     go_simp
     with_reducible rfl
    rotate_left
    ·
     simp only [Act.put, l_a, l_b, l_c, i64_w, i32_w]
     rfl
    refine pure_ (i := 2) (N := some 38) (v := ?_) (a' := ?_) #[true, false, true, false, false, false, false, false] rfl rfl (any_of HT_.out (by kernel_rfl)) (fun _ _ _ h => h) (Or.inl ⟨by rfl, ?_⟩) ?_ ?_
    rotate_left
    ·
     intro w'
     go_simp
     with_reducible rfl
    rotate_left
    ·
     simp only [Act.put, l_a, l_b, l_c, i64_w, i32_w]
     rfl
    refine take_ (i := 1) (N := some 37) (v := ?_) (a' := ?_) #[true, true, true, false, false, false, false, false] rfl rfl (take_ofW HT_.out HW_.out (by kernel_rfl)) (fun _ _ _ h => h) (Or.inl ⟨by rfl, ?_⟩) hHeld ?_ ?_
    rotate_left
    ·
     rintro w' ⟨s0, s1, s2⟩
     go_simp
     with_reducible rfl
    rotate_left
    ·
     simp only [Act.put, l_a, l_b, l_c, i64_w, i32_w]
     rfl
    refine one_ (i := 3) (N := some 39) #[true, true, true, true, false, false, false, false] rfl rfl (one_of HT_.out (by kernel_rfl)) (by decide) (fun K hK => ?_)
    refine goes_ Tryz.func98 (by kernel_rfl) rfl #[.pointer (some ⟨g, 0, none⟩)] (by rfl) rfl rfl ma ?_
    with_reducible refine (spec_l8Leaf.calls w0 ?side1 ?side2 A70.out).mono ?_
    (case side1 => exact is_)
    (case side2 => exact bi_)
    rintro e w88 ⟨v736, v739, v742, rfl, ho0, ho1, ho2, hi, hb, hk⟩
    refine ⟨_, rfl, ?_⟩
    have HO737 := ak (Kd.R_lower (Kd.R_new' ho0 (Kd.R_lt (ur HO704.out))) (keep_size (w := w) (g := g) (row := none) (kh HK.out)))
    have HO740 := ak (Kd.R_lower (Kd.R_new' ho1 (Kd.R_lt (ur HO707.out))) (keep_size (w := w) (g := g) (row := none) (kh HK.out)))
    have HO743 := ak (Kd.R_lower (Kd.R_newB (Kd.R_newB (Kd.R_newB (Kd.R_new' (Kd.R_new' (Kd.R_new' ho2 (Kd.R_lt (ur HO704.out))) (Kd.R_lt (ur HO707.out))) (Kd.R_lt (ur HO710.out))) (g := gb700) (o := .cells #[.slice A1_0 l1_0.length c1_0, .slice A1_1 l1_1.length c1_1, .slice A1_2 l1_2.length c1_2] 28 (0, 0)) (ub BK700.out)) (g := gb701) (o := .cells #[.slice none 0 0, .slice none 0 0, .slice none 0 0] 28 (0, 0)) (ub BK701.out)) (g := gb711) (o := .cells #[.slice Ao79 t702.length co79, .slice Ao84 t705.length co84, .slice Ao85 t708.length co85] 28 (0, 0)) (ub BK711.out)) (keep_size (w := w) (g := g) (row := none) (kh HK.out)))
    replace BK700 := kc BK700 hk NB700_0
    replace BK701 := kc BK701 hk NB701_0
    replace HO704 := kj HO704 hk ho0
    replace HO707 := kj HO707 hk ho1
    replace HO710 := ak (Kd.R_mono (Kd.R_told (Kd.R_told (Kd.R_told (Kd.R_oldK (IsS109.apart (show IsS109 w0 _ g s0_0 t713 from is_) (ur HO710.out) (by decide)) hk) (Kd.R_base ho0)) (Kd.R_base ho1)) (Kd.R_base ho2)) (fun _ h_ => h_.1))
    replace BK711 := kc BK711 hk NB711_0
    replace HK := kt HK hk
    replace HB := ak (hb)
    replace HI0 := ak (hi)
    try clear hb
    try clear hk
    try clear hi
    try clear ho0
    try clear ho1
    try clear ho2
    obtain ⟨Ao90, co90, eo90⟩ := Kd.R_slice HO737.out
    (first | subst eo90 | (injection eo90 with f1_ f2_ f3_; have f4_ := f1_.symm; have f5_ := f3_.symm; clear f1_ f2_ f3_; subst f4_; subst f5_))
    obtain ⟨Ao91, co91, eo91⟩ := Kd.R_slice HO740.out
    (first | subst eo91 | (injection eo91 with f1_ f2_ f3_; have f4_ := f1_.symm; have f5_ := f3_.symm; clear f1_ f2_ f3_; subst f4_; subst f5_))
    obtain ⟨Ao92, co92, eo92⟩ := Kd.R_slice HO743.out
    (first | subst eo92 | (injection eo92 with f1_ f2_ f3_; have f4_ := f1_.symm; have f5_ := f3_.symm; clear f1_ f2_ f3_; subst f4_; subst f5_))
    refine hK.out _ _ sx (fun hHeld => ?_)
    clear hK K
    refine norm_ (a' := ?_) ?_ ?_
    rotate_left
    ·
     show Act.put _ (some 39) _ = _
     simp only [Act.put, l_a, l_b, l_c, i64_w, i32_w]
     rfl
    refine one_ (i := 4) (N := some 40) #[true, true, true, true, true, false, false, false] rfl rfl (one_of HT_.out (by kernel_rfl)) (by decide) (fun K hK => ?_)
    refine value_ (w1 := ?_) (v := ?_) (by rfl) rfl ?_ ?_
    rotate_left 2
    ·
     go_simp
     constructor
     ·
      rfl
     ·
      rfl
    refine hK.out _ _ ⟨(blk_cell (blk_alloc BK711.out _) 0).trans rfl, (blk_cell (blk_alloc BK711.out _) 1).trans rfl, (blk_cell (blk_alloc BK711.out _) 2).trans rfl⟩ (fun hHeld => ?_)
    clear hK K
    refine norm_ (a' := ?_) ?_ ?_
    rotate_left
    ·
     show Act.put _ (some 40) _ = _
     simp only [Act.put, l_a, l_b, l_c, i64_w, i32_w]
     rfl
    refine one_ (i := 5) (N := some 41) #[true, true, true, true, true, true, false, false] rfl rfl (one_of HT_.out (by kernel_rfl)) (by decide) (fun K hK => ?_)
    refine Kd.R_append_step k28 w.heap.size (by rfl) (.tmp 37) (.tmp 40) 26 28 (.agg #[(.slice none 0 0), (.slice none 0 0), (.slice none 0 0)]) 72 rfl Tryz.underlying26 info28 rfl (by decide) (by omega) (.slice Ao85 t708.length co85) t708 (⟨t735, t738, t741⟩ : S28) [.slice Ao90 t735.length co90, .slice Ao91 t738.length co91, .slice Ao92 t741.length co92] (fun k_ => some k_ ≠ (.slice Ao79 t702.length co79 : Value).ownBlock ∧ some k_ ≠ (.slice Ao84 t705.length co84 : Value).ownBlock ∧ k_ ≠ gb700 ∧ k_ ≠ gb701 ∧ k_ ≠ gb711) (fun k_ => ((fun k_ => some k_ ≠ (.slice Ao79 t702.length co79 : Value).ownBlock ∧ some k_ ≠ (.slice Ao84 t705.length co84 : Value).ownBlock ∧ k_ ≠ gb700 ∧ k_ ≠ gb701 ∧ k_ ≠ gb711)) k_ ∧ some k_ ≠ (.slice Ao85 t708.length co85 : Value).ownBlock) rfl rfl ?aP (fun _ hk => hk) ?aF ?aO (Below.refl _ _) ?aS ?aL ?_
    (case aP => exact k28_mkM _ _ _ (⟨t735, t738, t741⟩ : S28) (Kd.R_mono (Kd.R_types (Kd.R_types (Kd.R_types (Kd.R_apart' (Kd.R_apart' (HO737.out) (Kd.R_typed HO707.out) (by decide)) (Kd.R_typed HO710.out) (by decide)) BK700.out (by decide)) BK701.out (by decide)) BK711.out (by decide)) (fun k_ hk => ⟨⟨hk.1.1.1.1.1.2, ⟨hk.1.1.1.1.2, ⟨hk.1.1.2, ⟨hk.1.2, hk.2⟩⟩⟩⟩, hk.1.1.1.2⟩)) (Kd.R_mono (Kd.R_types (Kd.R_types (Kd.R_types (Kd.R_apart' (Kd.R_apart' (HO740.out) (Kd.R_typed HO704.out) (by decide)) (Kd.R_typed HO710.out) (by decide)) BK700.out (by decide)) BK701.out (by decide)) BK711.out (by decide)) (fun k_ hk => ⟨⟨hk.1.1.1.1.2, ⟨hk.1.1.1.1.1.2, ⟨hk.1.1.2, ⟨hk.1.2, hk.2⟩⟩⟩⟩, hk.1.1.1.2⟩)) (Kd.R_mono (HO743.out) (fun k_ hk => ⟨⟨hk.1.1.1.1.1.2, ⟨hk.1.1.1.1.2, ⟨hk.1.1.2, ⟨hk.1.2, hk.2⟩⟩⟩⟩, hk.1.1.1.2⟩)))
    (case aF => exact (fun k_ hk => ⟨Kd.fresh' (Kd.R_lt (ur HO704.out)) k_ hk, Kd.fresh' (Kd.R_lt (ur HO707.out)) k_ hk, Kd.freshB (g := gb700) (o := .cells #[.slice A1_0 l1_0.length c1_0, .slice A1_1 l1_1.length c1_1, .slice A1_2 l1_2.length c1_2] 28 (0, 0)) (ub BK700.out) k_ hk, Kd.freshB (g := gb701) (o := .cells #[.slice none 0 0, .slice none 0 0, .slice none 0 0] 28 (0, 0)) (ub BK701.out) k_ hk, Kd.freshB (g := gb711) (o := .cells #[.slice Ao79 t702.length co79, .slice Ao84 t705.length co84, .slice Ao85 t708.length co85] 28 (0, 0)) (ub BK711.out) k_ hk⟩))
    (case aO => exact (ur (Kd.R_mono HO710.out (fun _ hk => ⟨hk.1.1.1.1.1.1.1, ⟨hk.1.1.1.1.1.1.2, ⟨hk.1.1.1.1.1.2, ⟨hk.1.1.1.1.2, hk.1.1.1.2⟩⟩⟩⟩))))
    (case aS => exact (keep_size (w := w) (g := g) (row := none) (kh HK.out)))
    (case aL => have := LMc71.out; omega)
    intro v746 w89 ho hb hg hat
    rw [← Ny745.out] at ho
    have n0_ := ak (IsS109.grown is_ hg (IsS109.own_ne HI0.out HO710.out (by decide)))
    have n1_ := ak (blk_grown (g := gb700) (o := .cells #[.slice A1_0 l1_0.length c1_0, .slice A1_1 l1_1.length c1_1, .slice A1_2 l1_2.length c1_2] 28 (0, 0)) (ub BK700.out) hg (Kd.R_away HO710.out (fun _ hk => hk.1.1.1.1.1.2)))
    have n2_ := ak (blk_grown (g := gb701) (o := .cells #[.slice none 0 0, .slice none 0 0, .slice none 0 0] 28 (0, 0)) (ub BK701.out) hg (Kd.R_away HO710.out (fun _ hk => hk.1.1.1.1.2)))
    have n3_ := ak (Kd.R_over' (ur HO704.out) (Kd.R_typed (ur HO710.out)) (by decide) hg)
    have n4_ := ak (Kd.R_over' (ur HO707.out) (Kd.R_typed (ur HO710.out)) (by decide) hg)
    have n5_ := ak (blk_grown (g := gb711) (o := .cells #[.slice Ao79 t702.length co79, .slice Ao84 t705.length co84, .slice Ao85 t708.length co85] 28 (0, 0)) (ub BK711.out) hg (Kd.R_away HO710.out (fun _ hk => hk.1.1.1.2)))
    have n6_ := ak (below_weaken bi_ HL.out hb)
    have n7_ := ak (KeepBut.trans (kh HK.out) (KeepBut.of_grown hg g) (Kd.R_base2 HO710.out))
    have n8_ := ak (ho)
    clear HI0 BK700 BK701 HO704 HO707 BK711 HB HK HO710 HO737 HO740 HO743
    have HI0 := n0_
    have BK700 := n1_
    have BK701 := n2_
    have HO704 := n3_
    have HO707 := n4_
    have BK711 := n5_
    have HB := n6_
    have HK := n7_
    have HO747 := n8_
    clear n0_ n1_ n2_ n3_ n4_ n5_ n6_ n7_ n8_ ho hb hg hat
    obtain ⟨Ao93, co93, eo93⟩ := Kd.R_slice HO747.out
    (first | subst eo93 | (injection eo93 with f1_ f2_ f3_; have f4_ := f1_.symm; have f5_ := f3_.symm; clear f1_ f2_ f3_; subst f4_; subst f5_))
    refine hK.out _ _ sx (fun hHeld => ?_)
    clear hK K
    refine norm_ (a' := ?_) ?_ ?_
    rotate_left
    ·
     show Act.put _ (some 41) _ = _
     simp only [Act.put, l_a, l_b, l_c, i64_w, i32_w]
     rfl
    refine pure_ (i := 6) (N := some 42) (v := ?_) (a' := ?_) #[true, true, true, true, true, true, true, false] rfl rfl (any_of HT_.out (by kernel_rfl)) (fun _ _ _ h => h) (Or.inl ⟨by rfl, ?_⟩) ?_ ?_
    rotate_left
    ·
     intro w'
     go_simp
     with_reducible rfl
    rotate_left
    ·
     simp only [Act.put, l_a, l_b, l_c, i64_w, i32_w]
     rfl
    refine last_ (i := 7) (N := none) #[true, true, true, true, true, true, true, true] rfl rfl (one_of HT_.out (by kernel_rfl)) (by decide) (fun K hK => ?_)
    have hs94 : w89.cell? ⟨gb711, 2, none⟩ = some (.slice Ao85 t708.length co85) := (blk_cell BK711.out 2).trans rfl
    have hfs94 := blk_frozen BK711.out 2
    have hns94_0 := NB700_711.out
    have hns94_1 := NB701_711.out
    have hms94_0 := NB711_700.out
    have hms94_1 := NB711_701.out
    refine skip_ (w1 := ?_) (by rfl) rfl ?_ ?_
    rotate_left
    ·
     go_simp
     rfl
    refine hK.out _ _ ?_
    clear hK K
    refine done_ (done_of HT_.out (by kernel_rfl)) ?_
    have z95 := cz3 BK711.out
    have hnb96 := NB701_0.out
    have hnc96 := NB0_701.out
    have z97 := cz3 BK701.out
    try go_wp2
    refine bodyPost_ret (results_cell_row rfl _ _ gb701 28 #[.slice Ao79 t702.length co79, .slice Ao84 t705.length co84, .slice Ao93 y745.length co93] (0, 0) _ rfl bq Tryz.underlying28 rfl (by kernel_rfl)) rfl ?_
    exact ⟨_, _, _, er, rr, rr, rr, is_, bi_, kh HK.out⟩
   ·
    obtain ⟨rfl, rfl, rfl, rfl⟩ := s4 H
    go_enter Tryz.func68, Tryz.ntmps68
    go_wp2_with (first | (refine bS HI0 HK HB HW0 3 #[.slice A1_0 l1_0.length c1_0, .slice A1_1 l1_1.length c1_1, .slice A1_2 l1_2.length c1_2] 28 ?_; clear HI0 HK HB; intro gb700 w98 BK700 GW700 GE700 NB0_700 NB700_0 hg hb HI0 HK HB; clear hb hg) | (refine bS HI0 HK HB HW0 4 #[.slice none 0 0, .slice none 0 0, .slice none 0 0] 28 ?_; clear HI0 HK HB; intro gb701 w99 BK701 GW701 GE701 NB0_701 NB701_0 hg hb HI0 HK HB; have NB700_701 := nl_ BK700 hg; have NB701_700 := ng_ BK700 hg; replace BK700 := kb BK700 hb; clear hb hg; have hnb100 := NB700_701.out; have hnc100 := NB701_700.out; have hnb101 := NB700_0.out; have hnc101 := NB0_700.out; have z102 := cz3 BK700.out) | (refine gL 110 7 Tryz.func110 #[.agg #[.slice A1_0 l1_0.length c1_0, .slice A1_1 l1_1.length c1_1, .slice A1_2 l1_2.length c1_2]] ?_; (with_reducible refine (spec_l8Copy.calls k _ _ l1_0 _ _ l1_1 _ _ l1_2 t702 t705 t708 _ (Kd.C_foot_now HR1_0.out (kh HK.out)) HC1_0.out (by with_unfolding_all exact Kd.C_keep (⟨#[]⟩ : ByteArray) HR1_1.out (kh HK.out) hf1_1) HC1_1.out (Kd.C_foot_now HR1_2.out (kh HK.out)) HC1_2.out A3.out).mono ?_); rintro e w103 ⟨v703, v706, v709, rfl, ho0, ho1, ho2, hb⟩; refine ⟨_, rfl, ?_⟩; have HO704 := ak (Kd.R_lower ho0 (keep_size (w := w) (g := g) (row := none) (kh HK.out))); have HO707 := ak (Kd.R_lower ho1 (keep_size (w := w) (g := g) (row := none) (kh HK.out))); have HO710 := ak (Kd.R_lower (Kd.R_newB (Kd.R_newB ho2 (g := gb700) (o := .cells #[.slice A1_0 l1_0.length c1_0, .slice A1_1 l1_1.length c1_1, .slice A1_2 l1_2.length c1_2] 28 (0, 0)) (ub BK700.out)) (g := gb701) (o := .cells #[.slice none 0 0, .slice none 0 0, .slice none 0 0] 28 (0, 0)) (ub BK701.out)) (keep_size (w := w) (g := g) (row := none) (kh HK.out))); replace BK700 := kb BK700 hb; replace BK701 := kb BK701 hb; replace HK := ak (KeepBut.trans (kh HK.out) (KeepBut.of_below hb g none) (.inl rfl)); replace HB := ak (below_step bi_ hb); replace HI0 := ak (IsS109.below is_ hb); clear hb; (try clear ho0); (try clear ho1); (try clear ho2)) | (refine bS HI0 HK HB HW0 5 #[.slice none 0 0, .slice none 0 0, .slice none 0 0] 28 ?_; clear HI0 HK HB; intro gb711 w104 BK711 GW711 GE711 NB0_711 NB711_0 hg hb HI0 HK HB; have NB700_711 := nl_ BK700 hg; have NB711_700 := ng_ BK700 hg; have NB701_711 := nl_ BK701 hg; have NB711_701 := ng_ BK701 hg; replace HO704 := rb HO704 hb; replace HO707 := rb HO707 hb; replace HO710 := ak (Kd.R_below (Kd.R_elderB (ur HO710.out) gb711 (Nat.le_of_eq hg.symm)) hb); replace BK700 := kb BK700 hb; replace BK701 := kb BK701 hb; clear hb hg; obtain ⟨Ao105, co105, eo105⟩ := Kd.R_slice HO704.out; subst eo105; have hnb106 := NB711_700.out; have hnc106 := NB700_711.out; have hnb107 := NB711_701.out; have hnc107 := NB701_711.out; have hnb108 := NB711_0.out; have hnc108 := NB0_711.out; have z109 := cz3 BK711.out; obtain ⟨Ao110, co110, eo110⟩ := Kd.R_slice HO707.out; subst eo110; obtain ⟨Ao111, co111, eo111⟩ := Kd.R_slice HO710.out; subst eo111) | (refine gL 57 9 Tryz.func57 #[.pointer (some ⟨g, 0, none⟩), .int .i64 20] ?_; (with_reducible refine (spec_l13Rd_pick.calls w0 ?side1 ?side2 A4.out).mono ?_); (case side1 => exact is_); (case side2 => exact bi_); rintro e w112 ⟨rfl, hi, hb, hk⟩; refine ⟨_, rfl, ?_⟩; replace BK700 := kd_ BK700 #[.slice A1_0 l1_0.length c1_0, .slice A1_1 l1_1.length c1_1, .slice A1_2 l1_2.length c1_2] hk NB700_0; replace BK701 := kd_ BK701 #[.slice none 0 0, .slice none 0 0, .slice none 0 0] hk NB701_0; replace HO704 := ki (w0 := w0) (f0 := s0_0) (f1 := s0_1) HO704 hk; replace HO707 := ki (w0 := w0) (f0 := s0_0) (f1 := s0_1) HO707 hk; replace HO710 := ak (Kd.R_mono (Kd.R_keep (IsS109.apart (show IsS109 w0 _ g s0_0 s0_1 from is_) (ur (Kd.R_mono (Kd.R_far (p := ⟨gb711, 2, none⟩) (Kd.R_far (p := ⟨gb711, 1, none⟩) (Kd.R_far (p := ⟨gb711, 0, none⟩) (Kd.R_mono HO710.out (fun k_ hk => (⟨hk, hk.2⟩ : _ ∧ k_ ≠ gb711))) (fun _ hk => hk.2) (.slice Ao105 t702.length co105)) (fun _ hk => hk.2) (.slice Ao110 t705.length co110)) (fun _ hk => hk.2) (.slice Ao111 t708.length co111)) (fun _ h_ => h_.1))) (by decide)) hk (fun _ h => h.2)) (fun _ h => h.1)); replace BK711 := kd_ BK711 #[.slice Ao105 t702.length co105, .slice Ao110 t705.length co110, .slice Ao111 t708.length co111] hk NB711_0; replace HK := kt HK hk; replace HB := ak (hb); replace HI0 := ak (hi); clear hb; (try clear hk); (try clear hi); have z113 := cz3 BK711.out; have hnb114 := NB701_0.out; have hnc114 := NB0_701.out; have z115 := cz3 BK701.out))
    refine bodyPost_ret (results_cell_row rfl _ _ gb701 28 #[.slice Ao105 t702.length co105, .slice Ao110 t705.length co110, .slice Ao111 t708.length co111] (0, 0) _ rfl bq Tryz.underlying28 rfl (by kernel_rfl)) rfl ?_
    exact ⟨_, _, _, er, rr, rr, rr, is_, bi_, kh HK.out⟩
end Go.Proofs.YtncdadcmghglkaaGreatDoor.PFnPartSame
