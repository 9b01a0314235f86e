/- Printed walks; conditions: those in each statement. -/
import Derived.Test.YtncdadcmghglkaaGreatDoorVFnPartSameQt
import Derived.Test.YtncdadcmghglkaaGreatDoorVFnPartSameYt
import Derived.Test.YtncdadcmghglkaaGreatDoorPFnPartSamex0
import Derived.Test.YtncdadcmghglkaaGreatDoorPFnPartSamex13
import Derived.Test.YtncdadcmghglkaaGreatDoorPFnPartSamex19
-- short
-- dense
-- sq
-- sq2
namespace Go.Proofs.YtncdadcmghglkaaGreatDoor.PFnPartSame
open Go.RowKit Go.Proofs.YtncdadcmghglkaaGreatDoor.X Go.Proofs.YtncdadcmghglkaaGreatDoorW.PrintWords Go.Proofs.YtncdadcmghglkaaGreatDoorW.PrintLast Go.Proofs.YtncdadcmghglkaaGreatDoorW.PrintMore
attribute [local go_sem] max2_int min2_int max_two min_two max_three min_three max_four min_four   -- for this text's walks alone
set_option linter.unusedVariables false
set_option maxHeartbeats 8000000
set_option maxRecDepth 100000
set_option linter.unusedSimpArgs false
def spec_l8Leaf.l0 : Nat → Int → List Int → Int → List (S69) → List ByteArray → Option ((List (S69)) × List ByteArray × (List (S28)) × Int)
 | 0, _, _, _, _, _ => none
 | k + 1, x6, x1000, x1001, x619000, x619001 => if x6 > 0 then ((spec_l13Rd_of.f k x1000 x1001 (([(⟨#[97]⟩ : ByteArray), (⟨#[]⟩ : ByteArray), (⟨#[116, 101, 120, 116, 32, 111, 102, 32, 97, 32, 108, 105, 110, 101]⟩ : ByteArray), (⟨#[45, 45, 98, 49]⟩ : ByteArray), (⟨#[45, 45, 120]⟩ : ByteArray)] : List ByteArray))).bind fun bt627 => (if x619001.length < 8796093022208 then (spec_l8Leaf.l0 k (wrap64 (x6 - 1)) x1000 bt627.2 x619000 (x619001 ++ [bt627.1])) else (none))) else (some (x619000, x619001, ([] : List (S28)), x1001))
def spec_l8Leaf.f (k : Nat) (s0_0 : List Int) (s0_1 : Int) : Option ((List (S69)) × List ByteArray × (List (S28)) × Int) := (spec_l13Rd_pick.f k s0_0 s0_1 2).bind fun bt594 => (if bt594.1 = 0 then ((spec_l13Rd_of.f k s0_0 bt594.2 (([(⟨#[104, 101, 108, 108, 111]⟩ : ByteArray), (⟨#[90, 111, 195, 171]⟩ : ByteArray), (⟨#[]⟩ : ByteArray)] : List ByteArray))).bind fun bt599 => ((spec_l5Draw.f k s0_0 bt599.2).bind fun bt601 => ((spec_MakeText.f k bt599.1 bt601.1).bind fun bt603 => (some (bt603.1, bt603.2.1, bt603.2.2.1, bt601.2))))) else ((spec_l3List.f k s0_0 bt594.2).bind fun bt614 => ((spec_l13Rd_num.f k s0_0 bt614.2 (([1, 2, 0, 3] : List Int))).bind fun bt622 => (spec_l8Leaf.l0 k bt622.1 s0_0 bt622.2 bt614.1 ([] : List ByteArray)))))
def spec_l8Leaf.T8 : Bool × List (List Nat × List Nat) := (true, [([], []), ([0], [0]), ([], []), ([], []), ([2, 3], [2, 3]), ([4], [4]), ([1, 5, 4], [1, 5]), ([0, 1, 2, 3, 4, 5, 6], []), ([7, 6, 6, 0, 1, 2, 3, 4, 5, 6], [6, 7])])
def spec_l8Leaf.B8 : List Nat := [0, 1, 0, 0, 12, 28, 63, 127, 255]
theorem spec_l8Leaf.tab8 : rtab .any (opsOf Tryz.f98 8) = spec_l8Leaf.T8 := by kernel_rfl
theorem spec_l8Leaf.bits8 : waitsOk spec_l8Leaf.T8.2 spec_l8Leaf.B8 = true := by kernel_rfl
theorem spec_l8Leaf.calls {k g : Nat} {s0_0 : List Int} {s0_1 r4 : Int} {r1 : List (S69)} {r2 : List ByteArray} {r3 : List (S28)} {w : World} (w0 : World) (hI : IsS109 w0 w g s0_0 s0_1) (hB : Below w0.heap.size w0 w) (h : spec_l8Leaf.f k s0_0 s0_1 = some (r1, r2, r3, r4)) :
  Calls Tryz.prog 98 #[.pointer (some ⟨g, 0, none⟩)] w fun e w' => ∃ v0_ v1_ v2_ : Value, e = .returned (.agg #[v0_, v1_, v2_]) ∧ Kd.R k69 69 w' w.heap.size (fun _ => True) v0_ r1 ∧ Kd.R Kd.string 9 w' w.heap.size (fun _ => True) v1_ r2 ∧ Kd.R k28 28 w' w.heap.size (fun k_ => some k_ ≠ (v0_ : Value).ownBlock ∧ some k_ ≠ (v1_ : Value).ownBlock) v2_ r3 ∧ IsS109 w0 w' g s0_0 r4 ∧ Below w0.heap.size w0 w' ∧ KeepBut w w' g none := by
 have hu28 := Tryz.underlying28
 have HI0 := ak hI
 have HK := ak (KeepBut.refl w g none)
 have HL := ak hB.size
 clear hI
 have HW0 := ak hB.size
 have HB := ak hB
 clear hB
 have H : ((spec_l13Rd_pick.f k s0_0 s0_1 2).bind fun bt594 => (if bt594.1 = 0 then ((spec_l13Rd_of.f k s0_0 bt594.2 (([(⟨#[104, 101, 108, 108, 111]⟩ : ByteArray), (⟨#[90, 111, 195, 171]⟩ : ByteArray), (⟨#[]⟩ : ByteArray)] : List ByteArray))).bind fun bt599 => ((spec_l5Draw.f k s0_0 bt599.2).bind fun bt601 => ((spec_MakeText.f k bt599.1 bt601.1).bind fun bt603 => (some (bt603.1, bt603.2.1, bt603.2.2.1, bt601.2))))) else ((spec_l3List.f k s0_0 bt594.2).bind fun bt614 => ((spec_l13Rd_num.f k s0_0 bt614.2 (([1, 2, 0, 3] : List Int))).bind fun bt622 => (spec_l8Leaf.l0 k bt622.1 s0_0 bt622.2 bt614.1 ([] : List ByteArray)))))) = some (r1, r2, r3, r4) := h
 clear h
 replace H := bd H
 obtain ⟨⟨t594, t595⟩, A2, H⟩ := H
 (try dsimp only at H)
 replace H := sq H
 rcases H with ⟨c3b0, c3b1, H⟩ | ⟨c3, c3b0, c3b1, H⟩
 ·
  obtain ⟨y596, Ny596⟩ := nm ([(⟨#[104, 101, 108, 108, 111]⟩ : ByteArray), (⟨#[90, 111, 195, 171]⟩ : ByteArray), (⟨#[]⟩ : ByteArray)] : List ByteArray)
  rw [← Ny596.out] at H
  replace H := bd H
  obtain ⟨⟨t599, t600⟩, A4, H⟩ := H
  (try dsimp only at H)
  replace H := bd H
  obtain ⟨⟨t601, t602⟩, A5, H⟩ := H
  (try dsimp only at H)
  replace H := bd H
  obtain ⟨⟨t603, t606, t609, t612⟩, A6, H⟩ := H
  (try dsimp only at H)
  obtain ⟨rfl, rfl, rfl, rfl⟩ := s4 H
  go_enter Tryz.func98, Tryz.ntmps98
  go_wp2_with (first | (refine bS HI0 HK HB HW0 2 #[.slice none 0 0, .slice none 0 0, .slice none 0 0] 28 ?_; clear HI0 HK HB; intro gb593 w7 BK593 GW593 GE593 NB0_593 NB593_0 hg hb HI0 HK HB; clear hb hg) | (refine gL 57 8 Tryz.func57 #[.pointer (some ⟨g, 0, none⟩), .int .i64 2] ?_; (with_reducible refine (spec_l13Rd_pick.calls w0 ?side1 ?side2 A2.out).mono ?_); (case side1 => exact is_); (case side2 => exact bi_); rintro e w8 ⟨rfl, hi, hb, hk⟩; refine ⟨_, rfl, ?_⟩; replace BK593 := kc BK593 hk NB593_0; replace HK := kt HK hk; replace HB := ak (hb); replace HI0 := ak (hi); clear hb; (try clear hk); (try clear hi)) | (refine lRM 12 Kd.string 9 [.string (⟨#[104, 101, 108, 108, 111]⟩ : ByteArray), .string (⟨#[90, 111, 195, 171]⟩ : ByteArray), .string (⟨#[]⟩ : ByteArray)] Ny596 (Reps.one (show Kd.M Kd.string _ _ _ (⟨#[104, 101, 108, 108, 111]⟩ : ByteArray) [.string (⟨#[104, 101, 108, 108, 111]⟩ : ByteArray)] from rfl) (Reps.one (show Kd.M Kd.string _ _ _ (⟨#[90, 111, 195, 171]⟩ : ByteArray) [.string (⟨#[90, 111, 195, 171]⟩ : ByteArray)] from rfl) (Reps.one (show Kd.M Kd.string _ _ _ (⟨#[]⟩ : ByteArray) [.string (⟨#[]⟩ : ByteArray)] from rfl) (Reps.none _ _)))) ?_; intro v597 w9 ho10 hb; have HO598 := ak (Kd.R_lower ho10 (keep_size (w := w) (g := g) (row := none) (kh HK.out))); replace BK593 := kb BK593 hb; replace HK := ak (KeepBut.trans (kh HK.out) (KeepBut.of_below hb g none) (.inl rfl)); replace HB := ak (below_step bi_ hb); replace HI0 := ak (IsS109.below is_ hb); clear hb ho10; obtain ⟨Ao11, co11, eo11⟩ := Kd.R_slice HO598.out; subst eo11) | (refine gL 58 13 Tryz.func58 #[.pointer (some ⟨g, 0, none⟩), .slice Ao11 y596.length co11] ?_; (with_reducible refine (spec_l13Rd_of.calls w0 ?side1 ?side2 (cu ((Kd.R_reads' HO598.out).2.2)) ((Kd.R_reads' HO598.out).2.1) (far_slice (IsS109.own_ne HI0.out HO598.out (by decide))) A4.out).mono ?_); (case side1 => exact is_); (case side2 => exact bi_); rintro e w12 ⟨rfl, hi, hb, hk⟩; refine ⟨_, rfl, ?_⟩; replace BK593 := kc BK593 hk NB593_0; replace HO598 := ki HO598 hk; replace HK := kt HK hk; replace HB := ak (hb); replace HI0 := ak (hi); clear hb; (try clear hk); (try clear hi)) | (refine gL 143 15 Tryz.func143 #[.pointer (some ⟨g, 0, none⟩)] ?_; (with_reducible refine (spec_l5Draw.calls w0 ?side1 ?side2 A5.out).mono ?_); (case side1 => exact is_); (case side2 => exact bi_); rintro e w13 ⟨rfl, hi, hb, hk⟩; refine ⟨_, rfl, ?_⟩; replace BK593 := kc BK593 hk NB593_0; replace HO598 := ki HO598 hk; replace HK := kt HK hk; replace HB := ak (hb); replace HI0 := ak (hi); clear hb; (try clear hk); (try clear hi)) | (refine gL 142 16 Tryz.func142 #[.string t599, .string t601] ?_; (with_reducible refine (spec_MakeText.calls A6.out).mono ?_); rintro e w14 ⟨v604, v607, v610, rfl, ho0, ho1, ho2, hb⟩; refine ⟨_, rfl, ?_⟩; have HO605 := ak (Kd.R_lower ho0 (keep_size (w := w) (g := g) (row := none) (kh HK.out))); have HO608 := ak (Kd.R_lower (Kd.R_new' ho1 (Kd.R_lt (ur HO598.out))) (keep_size (w := w) (g := g) (row := none) (kh HK.out))); have HO611 := ak (Kd.R_lower (Kd.R_newB (Kd.R_new' ho2 (Kd.R_lt (ur HO598.out))) (g := gb593) (o := .cells #[.slice none 0 0, .slice none 0 0, .slice none 0 0] 28 (0, 0)) (ub BK593.out)) (keep_size (w := w) (g := g) (row := none) (kh HK.out))); replace HO598 := ak (Kd.R_elder' (ur HO598.out) (Kd.R_base ho1) hb); replace BK593 := kb BK593 hb; replace HK := ak (KeepBut.trans (kh HK.out) (KeepBut.of_below hb g none) (.inl rfl)); replace HB := ak (below_step bi_ hb); replace HI0 := ak (IsS109.below is_ hb); clear hb; (try clear ho0); (try clear ho1); (try clear ho2)) | (refine bS HI0 HK HB HW0 3 #[.slice none 0 0, .slice none 0 0, .slice none 0 0] 28 ?_; clear HI0 HK HB; intro gb613 w15 BK613 GW613 GE613 NB0_613 NB613_0 hg hb HI0 HK HB; have NB593_613 := nl_ BK593 hg; have NB613_593 := ng_ BK593 hg; replace HO598 := rb HO598 hb; replace HO605 := rb HO605 hb; replace HO608 := rb HO608 hb; replace HO611 := ak (Kd.R_below (Kd.R_elderB (ur HO611.out) gb613 (Nat.le_of_eq hg.symm)) hb); replace BK593 := kb BK593 hb; clear hb hg; obtain ⟨Ao16, co16, eo16⟩ := Kd.R_slice HO605.out; subst eo16; have hnb17 := NB613_593.out; have hnc17 := NB593_613.out; have hnb18 := NB613_0.out; have hnc18 := NB0_613.out; have z19 := cz3 BK613.out; obtain ⟨Ao20, co20, eo20⟩ := Kd.R_slice HO608.out; subst eo20; obtain ⟨Ao21, co21, eo21⟩ := Kd.R_slice HO611.out; subst eo21; have hnb22 := NB593_0.out; have hnc22 := NB0_593.out; have z23 := cz3 BK593.out))
  refine bodyPost_ret (results_cell_row rfl _ _ gb593 28 #[.slice Ao16 t603.length co16, .slice Ao20 t606.length co20, .slice Ao21 t609.length co21] (0, 0) _ rfl bq Tryz.underlying28 rfl (by kernel_rfl)) rfl ?_
  exact ⟨_, _, _, er, rr, rr, rr, is_, bi_, kh HK.out⟩
 ·
  replace H := bd H
  obtain ⟨⟨t614, t617⟩, A24, H⟩ := H
  (try dsimp only at H)
  obtain ⟨y619, Ny619⟩ := nm ([1, 2, 0, 3] : List Int)
  rw [← Ny619.out] at H
  replace H := bd H
  obtain ⟨⟨t622, t623⟩, A25, H⟩ := H
  (try dsimp only at H)
  have H' := ak H; clear H
  go_enter Tryz.func98, Tryz.ntmps98
  go_wp2_with (first | (refine bS HI0 HK HB HW0 2 #[.slice none 0 0, .slice none 0 0, .slice none 0 0] 28 ?_; clear HI0 HK HB; intro gb593 w26 BK593 GW593 GE593 NB0_593 NB593_0 hg hb HI0 HK HB; clear hb hg) | (refine gL 57 8 Tryz.func57 #[.pointer (some ⟨g, 0, none⟩), .int .i64 2] ?_; (with_reducible refine (spec_l13Rd_pick.calls w0 ?side1 ?side2 A2.out).mono ?_); (case side1 => exact is_); (case side2 => exact bi_); rintro e w27 ⟨rfl, hi, hb, hk⟩; refine ⟨_, rfl, ?_⟩; replace BK593 := kc BK593 hk NB593_0; replace HK := kt HK hk; replace HB := ak (hb); replace HI0 := ak (hi); clear hb; (try clear hk); (try clear hi)) | (refine gL 144 21 Tryz.func144 #[.pointer (some ⟨g, 0, none⟩)] ?_; (with_reducible refine (spec_l3List.calls w0 ?side1 ?side2 A24.out).mono ?_); (case side1 => exact is_); (case side2 => exact bi_); rintro e w28 ⟨v615, rfl, ho0, hi, hb, hk⟩; refine ⟨_, rfl, ?_⟩; have HO616 := ak (Kd.R_lower ho0 (keep_size (w := w) (g := g) (row := none) (kh HK.out))); replace BK593 := kc BK593 hk NB593_0; replace HK := kt HK hk; replace HB := ak (hb); replace HI0 := ak (hi); clear hb; (try clear hk); (try clear hi); (try clear ho0); obtain ⟨Ao29, co29, eo29⟩ := Kd.R_slice HO616.out; subst eo29) | (refine bS HI0 HK HB HW0 5 #[.slice none 0 0, .slice none 0 0, .slice none 0 0] 28 ?_; clear HI0 HK HB; intro gb618 w30 BK618 GW618 GE618 NB0_618 NB618_0 hg hb HI0 HK HB; have NB593_618 := nl_ BK593 hg; have NB618_593 := ng_ BK593 hg; replace HO616 := rb HO616 hb; replace BK593 := kb BK593 hb; clear hb hg; have hnb31 := NB618_593.out; have hnc31 := NB593_618.out; have hnb32 := NB618_0.out; have hnc32 := NB0_618.out; have z33 := cz3 BK618.out) | (refine lRM 24 (Kd.int .i64) 3 [.int .i64 1, .int .i64 2, .int .i64 0, .int .i64 3] Ny619 (Reps.one (show Kd.M (Kd.int .i64) _ _ _ 1 [.int .i64 1] from rfl) (Reps.one (show Kd.M (Kd.int .i64) _ _ _ 2 [.int .i64 2] from rfl) (Reps.one (show Kd.M (Kd.int .i64) _ _ _ 0 [.int .i64 0] from rfl) (Reps.one (show Kd.M (Kd.int .i64) _ _ _ 3 [.int .i64 3] from rfl) (Reps.none _ _))))) ?_; intro v620 w34 ho35 hb; have HO621 := ak (Kd.R_lower ho35 (keep_size (w := w) (g := g) (row := none) (kh HK.out))); replace HO616 := rg HO616 hb; replace BK593 := kp BK593 #[.slice none 0 0, .slice none 0 0, .slice none 0 0] hb; replace BK618 := kp BK618 #[.slice Ao29 t614.length co29, .slice none 0 0, .slice none 0 0] hb; replace HK := ak (KeepBut.trans (kh HK.out) (KeepBut.of_below hb g none) (.inl rfl)); replace HB := ak (below_step bi_ hb); replace HI0 := ak (IsS109.below (show IsS109 w0 (((w30.setCell ⟨gb618, 0, none⟩ (.slice Ao29 t614.length co29)).setCell ⟨gb618, 1, none⟩ (.slice none 0 0)).setCell ⟨gb618, 2, none⟩ (.slice none 0 0)) g s0_0 t617 from is_) hb); clear hb ho35; obtain ⟨Ao36, co36, eo36⟩ := Kd.R_slice HO621.out; subst eo36) | (refine gL 97 25 Tryz.func97 #[.pointer (some ⟨g, 0, none⟩), .slice Ao36 y619.length co36] ?_; (with_reducible refine (spec_l13Rd_num.calls w0 ?side1 ?side2 (cu ((Kd.R_reads' HO621.out).2.2)) ((Kd.R_reads' HO621.out).2.1) (far_slice (IsS109.own_ne HI0.out HO621.out (by decide))) A25.out).mono ?_); (case side1 => exact is_); (case side2 => exact bi_); rintro e w37 ⟨rfl, hi, hb, hk⟩; refine ⟨_, rfl, ?_⟩; replace BK593 := kc BK593 hk NB593_0; replace HO616 := ki HO616 hk; replace BK618 := kc BK618 hk NB618_0; replace HO621 := ki HO621 hk; replace HK := kt HK hk; replace HB := ak (hb); replace HI0 := ak (hi); clear hb; (try clear hk); (try clear hi)))
  go_loopg [6] k (fun kq v6 w' => ∃ (x6_1 : Int) (x1001_1 : Int) (x619001_1 : List ByteArray) (u619001 : Value), v6 = .int .i64 x6_1 ∧ Aside0 (spec_l8Leaf.l0 kq x6_1 s0_0 x1001_1 t614 x619001_1 = some (r1, r2, r3, r4)) ∧ Aside0 (kq ≤ k) ∧ Aside0 (Kd.R k69 69 w' w.heap.size (fun _ => True) (.slice Ao29 t614.length co29) t614) ∧ Aside0 (Kd.R Kd.string 9 w' w.heap.size (fun _ => True) u619001 x619001_1) ∧ Aside0 (w'.heap[gb593]? = some (.cells #[(.slice none 0 0), (.slice none 0 0), (.slice none 0 0)] 28 (0, 0))) ∧ Aside0 (w'.heap[gb618]? = some (.cells #[(.slice Ao29 t614.length co29), u619001, (.slice none 0 0)] 28 (0, 0))) ∧ Aside0 (IsS109 w0 w' g s0_0 x1001_1) ∧ Aside0 (KeepBut w w' g none) ∧ Aside0 (Below w0.heap.size w0 w'))
  case atStart => exact ⟨_, _, _, _, rs, H', ⟨Nat.le_refl _⟩, ⟨ur HO616.out⟩, ⟨nx⟩, ⟨ub BK593.out⟩, ⟨ub BK618.out⟩, ⟨is_⟩, ⟨kh HK.out⟩, ⟨bi_⟩⟩
  case round =>
   clear H'
   try clear c3
   try clear c3b0
   try clear c3b1
   obtain ⟨x6_1, x1001_1, x619001_1, u619001, rfl, HA, HK1, HO_619000, HO_619001, BK593, BK618, HI0, HK, HB⟩ := hrel
   cases gk with
   | zero => exact zz HA.out
   | succ k1 =>
    obtain ⟨H⟩ := HA
    simp only [spec_l8Leaf.l0] at H
    replace H := sp H
    rcases H with ⟨c38, H⟩ | ⟨c38, H⟩
    ·
     have c38b0 : decide (0 < x6_1) = true := decide_eq_true c38
     clear c38
     obtain ⟨y624, Ny624⟩ := nm ([(⟨#[97]⟩ : ByteArray), (⟨#[]⟩ : ByteArray), (⟨#[116, 101, 120, 116, 32, 111, 102, 32, 97, 32, 108, 105, 110, 101]⟩ : ByteArray), (⟨#[45, 45, 98, 49]⟩ : ByteArray), (⟨#[45, 45, 120]⟩ : ByteArray)] : List ByteArray)
     rw [← Ny624.out] at H
     replace H := bd H
     obtain ⟨⟨t627, t628⟩, A39, H⟩ := H
     (try dsimp only at H)
     replace H := nl H; obtain ⟨LMc40, H⟩ := H
     obtain ⟨y629, Ny629⟩ := nm (x619001_1 ++ [t627])
     rw [← Ny629.out] at H
     have H' := ak H; clear H
     try go_wp2
     replace HO_619000 := ak (Kd.R_drew HO_619000.out)
     replace HO_619001 := ak (Kd.R_drew HO_619001.out)
     replace BK593 := ak (blk_drew BK593.out)
     replace BK618 := ak (blk_drew BK618.out)
     replace HI0 := ak (IsS109.drew HI0.out)
     replace HK := ak (keep_drew HK.out)
     replace HB := ak (below_drew1 HB.out)
     refine start_ (n := 9) (S := fun w' => w'.cell? ⟨gb618, 0, none⟩ = some (.slice Ao29 t614.length co29) ∧ w'.cell? ⟨gb618, 1, none⟩ = some (u619001) ∧ w'.cell? ⟨gb618, 2, none⟩ = some (.slice none 0 0)) (ds := [8]) #[false, false, false, false, false, false, false, false, false] (by kernel_rfl) rfl rfl ⟨(blk_cell BK618.out 0).trans rfl, (blk_cell BK618.out 1).trans rfl, (blk_cell BK618.out 2).trans rfl⟩ (fun hHeld => ?_); refine with_tabW spec_l8Leaf.tab8 spec_l8Leaf.bits8 (fun HT_ HW_ => ?_)
     generalize wr.drew = w41 at HO_619000 HO_619001 BK593 BK618 HI0 HK HB hHeld ⊢
     refine pl 0 ?_
     refine pl 2 ?_
     refine tk 1 ?_
     refine o1 3 (fun K hK => ?_)
     refine Kd.R_lit_step Kd.string _ 9 ?hg (N := 33) ?hd (xs := ([(⟨#[97]⟩ : ByteArray), (⟨#[]⟩ : ByteArray), (⟨#[116, 101, 120, 116, 32, 111, 102, 32, 97, 32, 108, 105, 110, 101]⟩ : ByteArray), (⟨#[45, 45, 98, 49]⟩ : ByteArray), (⟨#[45, 45, 120]⟩ : ByteArray)] : List ByteArray)) (inner := [.string (⟨#[97]⟩ : ByteArray), .string (⟨#[]⟩ : ByteArray), .string (⟨#[116, 101, 120, 116, 32, 111, 102, 32, 97, 32, 108, 105, 110, 101]⟩ : ByteArray), .string (⟨#[45, 45, 98, 49]⟩ : ByteArray), .string (⟨#[45, 45, 120]⟩ : ByteArray)]) (ok := fun _ => True) (okp := fun _ => True) ?hr ?hp (fun _ hk => hk) trivial (Below.refl _ _) (Nat.le_refl _) (by simp) ?_; (case hd => rfl); (case hg => rfl); (case hr => first | (go_simp; done) | (go_simp; rfl)); (case hp => exact (Reps.one (show Kd.M Kd.string _ _ _ (⟨#[97]⟩ : ByteArray) [.string (⟨#[97]⟩ : ByteArray)] from rfl) (Reps.one (show Kd.M Kd.string _ _ _ (⟨#[]⟩ : ByteArray) [.string (⟨#[]⟩ : ByteArray)] from rfl) (Reps.one (show Kd.M Kd.string _ _ _ (⟨#[116, 101, 120, 116, 32, 111, 102, 32, 97, 32, 108, 105, 110, 101]⟩ : ByteArray) [.string (⟨#[116, 101, 120, 116, 32, 111, 102, 32, 97, 32, 108, 105, 110, 101]⟩ : ByteArray)] from rfl) (Reps.one (show Kd.M Kd.string _ _ _ (⟨#[45, 45, 98, 49]⟩ : ByteArray) [.string (⟨#[45, 45, 98, 49]⟩ : ByteArray)] from rfl) (Reps.one (show Kd.M Kd.string _ _ _ (⟨#[45, 45, 120]⟩ : ByteArray) [.string (⟨#[45, 45, 120]⟩ : ByteArray)] from rfl) (Reps.none _ _)))))))
     intro v625 w42 ho43 hb hg_ hnew_
     clear hg_ hnew_
     (first | rw [← Ny624.out] at ho43 | (simp only [Int.reduceToNat] at ho43; rw [← Ny624.out] at ho43))
     have HO626 := ak (Kd.R_lower (Kd.R_new' ho43 (Kd.R_lt (ur HO_619001.out))) (keep_size (w := w) (g := g) (row := none) (kh HK.out)))
     replace HO_619000 := rb HO_619000 hb
     replace HO_619001 := ak (Kd.R_elder' (ur HO_619001.out) (Kd.R_base ho43) hb)
     replace BK593 := kb BK593 hb
     replace BK618 := kb BK618 hb
     replace HK := ak (KeepBut.trans (kh HK.out) (KeepBut.of_below hb g none) (.inl rfl))
     replace HB := ak (below_step bi_ hb)
     replace HI0 := ak (IsS109.below is_ hb)
     clear hb ho43
     obtain ⟨Ao44, co44, eo44⟩ := Kd.R_slice HO626.out
     (first | subst eo44 | (injection eo44 with f1_ f2_ f3_; have f4_ := f1_.symm; have f5_ := f3_.symm; clear f1_ f2_ f3_; subst f4_; subst f5_))
     refine hK.out _ _ sx (fun hHeld => ?_)
     clear hK K
     refine nrm ?_
     refine o1 4 (fun K hK => ?_)
     refine goes_ Tryz.func58 (by kernel_rfl) rfl #[.pointer (some ⟨g, 0, none⟩), .slice Ao44 y624.length co44] (by rfl) rfl rfl ma ?_
     with_reducible refine (spec_l13Rd_of.calls w0 ?side1 ?side2 ?side3 ?side4 ?side5 A39.out).mono ?_
     (case side1 => exact is_)
     (case side2 => exact bi_)
     (case side3 => repeat (first | exact (Kd.R_reads' HO626.out).2.2 | (with_reducible refine Kd.C_alloc ?_ _) | (with_reducible refine Kd.C_drewN ?_ _) | (with_reducible refine Kd.C_drew ?_)))
     (case side4 => exact (Kd.R_reads' HO626.out).2.1)
     (case side5 => exact far_slice (IsS109.own_ne HI0.out HO626.out (by decide)))
     rintro e w45 ⟨rfl, hi, hb, hk⟩
     refine ⟨_, rfl, ?_⟩
     replace HO_619000 := ki HO_619000 hk
     replace HO_619001 := ki HO_619001 hk
     replace BK593 := kc BK593 hk NB593_0
     replace BK618 := kc BK618 hk NB618_0
     replace HO626 := ki HO626 hk
     replace HK := kt HK hk
     replace HB := ak (hb)
     replace HI0 := ak (hi)
     try clear hb
     try clear hk
     try clear hi
     refine hK.out _ _ sx (fun hHeld => ?_)
     clear hK K
     refine nrm ?_
     refine o1 5 (fun K hK => ?_)
     refine value_ (w1 := ?_) (v := ?_) (by rfl) rfl ?_ ?_
     rotate_left 2
     ·
      go_simp
      constructor
      ·
       rfl
      ·
       rfl
     refine hK.out _ _ ⟨(blk_cell (blk_alloc BK618.out _) 0).trans rfl, (blk_cell (blk_alloc BK618.out _) 1).trans rfl, (blk_cell (blk_alloc BK618.out _) 2).trans rfl⟩ (fun hHeld => ?_)
     clear hK K
     refine nrm ?_
     refine o1 6 (fun K hK => ?_)
     refine Kd.R_append_step Kd.string w.heap.size (by rfl) (.tmp 31) (.tmp 35) 23 9 (.string ⟨#[]⟩) 16 rfl Tryz.underlying23 info9 rfl (by decide) (by omega) u619001 x619001_1 t627 [.string t627] (fun k_ => some k_ ≠ (.slice Ao44 y624.length co44 : Value).ownBlock) (fun _ => False) rfl rfl ?aP (fun _ hk => hk.elim) ?aF ?aO (Below.refl _ _) ?aS ?aL ?_
     (case aP => exact rfl)
     (case aF => exact (fun k_ hk => Kd.fresh' (Kd.R_lt (ur HO626.out)) k_ hk))
     (case aO => exact (ur (Kd.R_mono HO_619001.out (fun _ hk => hk.2))))
     (case aS => exact (keep_size (w := w) (g := g) (row := none) (kh HK.out)))
     (case aL => have := LMc40.out; omega)
     intro v630 w46 ho hb hg hat
     rw [← Ny629.out] at ho
     have n0_ := ak (Kd.R_over' (ur HO_619000.out) (Kd.R_typed (ur HO_619001.out)) (by decide) hg)
     have n1_ := ak (blk_grown (g := gb593) (o := .cells #[.slice none 0 0, .slice none 0 0, .slice none 0 0] 28 (0, 0)) (ub BK593.out) hg (Kd.R_ne HO_619001.out BK593.out (by decide)))
     have n2_ := ak (blk_grown (g := gb618) (o := .cells #[.slice Ao29 t614.length co29, u619001, .slice none 0 0] 28 (0, 0)) (ub BK618.out) hg (Kd.R_ne HO_619001.out BK618.out (by decide)))
     have n3_ := ak (IsS109.grown is_ hg (IsS109.own_ne HI0.out HO_619001.out (by decide)))
     have n4_ := ak (Kd.R_after (ok := (fun _ => True)) (ur HO626.out) hg hat)
     have n5_ := ak (below_weaken bi_ HL.out hb)
     have n6_ := ak (KeepBut.trans (kh HK.out) (KeepBut.of_grown hg g) (Kd.R_base2 HO_619001.out))
     have n7_ := ak (ho)
     clear HO_619000 BK593 BK618 HI0 HO626 HB HK HO_619001
     have HO_619000 := n0_
     have BK593 := n1_
     have BK618 := n2_
     have HI0 := n3_
     have HO626 := n4_
     have HB := n5_
     have HK := n6_
     have HO631 := n7_
     clear n0_ n1_ n2_ n3_ n4_ n5_ n6_ n7_ ho hb hg hat
     obtain ⟨Ao47, co47, eo47⟩ := Kd.R_slice HO631.out
     (first | subst eo47 | (injection eo47 with f1_ f2_ f3_; have f4_ := f1_.symm; have f5_ := f3_.symm; clear f1_ f2_ f3_; subst f4_; subst f5_))
     refine hK.out _ _ sx (fun hHeld => ?_)
     clear hK K
     refine nrm ?_
     refine pl 7 ?_
     refine last_ (i := 8) (N := none) #[true, true, true, true, true, true, true, true, true] rfl rfl (one_of HT_.out (by kernel_rfl)) (by decide) (fun K hK => ?_)
     have hs48 : w46.cell? ⟨gb618, 1, none⟩ = some (u619001) := (blk_cell BK618.out 1).trans rfl
     have hfs48 := blk_frozen BK618.out 1
     have hns48_0 := NB593_618.out
     have hms48_0 := NB618_593.out
     refine skip_ (w1 := ?_) (by rfl) rfl ?_ ?_
     rotate_left
     ·
      go_simp
      rfl
     refine hK.out _ _ ?_
     clear hK K
     refine done_ (done_of HT_.out (by kernel_rfl)) ?_
     try go_wp2
     go_roundg k1
     case measure => exact kl
     case rel => exact ⟨_, _, _, _, rs, H', ⟨kl⟩, ⟨rr⟩, ⟨rr⟩, ⟨bq⟩, ⟨bq⟩, ⟨is_⟩, ⟨kh HK.out⟩, ⟨bi_⟩⟩
    ·
     have c38b0 : decide (0 < x6_1) = false := decide_eq_false c38
     clear c38
     obtain ⟨rfl, rfl, rfl, rfl⟩ := s4 H
     have hnb49 := NB618_593.out
     have hnc49 := NB593_618.out
     have hnb50 := NB618_0.out
     have hnc50 := NB0_618.out
     have z51 := cz3 BK618.out
     have hnb52 := NB593_0.out
     have hnc52 := NB0_593.out
     have z53 := cz3 BK593.out
     obtain ⟨Ao54, co54, eo54⟩ := Kd.R_slice HO_619001.out
     subst eo54
     go_wp2
     refine bodyPost_ret (results_cell_row rfl _ _ gb593 28 #[.slice Ao29 t614.length co29, .slice Ao54 x619001_1.length co54, .slice none 0 0] (0, 0) _ rfl bq Tryz.underlying28 rfl (by kernel_rfl)) rfl ?_
     exact ⟨_, _, _, er, rr, rr, nx, is_, bi_, kh HK.out⟩
mutual
def spec_l8Draw.j0 : Nat → Int → Bool → List Int → Int → Option ((List (S69)) × List ByteArray × (List (S28)) × Int)
 | 0, _, _, _, _ => none
 | k + 1, x1, x13, x1000, x1001 => if x13 = true then ((spec_l8Leaf.f k x1000 x1001).bind fun bt635 => (some (bt635.1, bt635.2.1, bt635.2.2.1, bt635.2.2.2))) else ((spec_l13Rd_of.f k x1000 x1001 (([(⟨#[109, 117, 108, 116, 105, 112, 97, 114, 116, 47, 109, 105, 120, 101, 100, 59, 32, 98, 111, 117, 110, 100, 97, 114, 121, 61, 98, 48]⟩ : ByteArray), (⟨#[77, 117, 108, 116, 105, 112, 97, 114, 116, 47, 97, 108, 116, 101, 114, 110, 97, 116, 105, 118, 101, 59, 32, 66, 111, 117, 110, 100, 97, 114, 121, 61, 98, 50]⟩ : ByteArray), (⟨#[109, 117, 108, 116, 105, 112, 97, 114, 116, 47, 109, 105, 120, 101, 100, 59, 32, 98, 111, 117, 110, 100, 97, 114, 121, 61, 120, 121, 122]⟩ : ByteArray)] : List ByteArray))).bind fun bt648 => ((spec_l13Rd_num.f k x1000 bt648.2 (([2, 1, 3] : List Int))).bind fun bt657 => (spec_l8Draw.l0 k x1 bt657.1 x1000 bt657.2 (([(⟨(⟨#[83, 117, 98, 106, 101, 99, 116]⟩ : ByteArray), (⟨#[109, 97, 110, 121]⟩ : ByteArray)⟩ : S69), (⟨(⟨#[67, 111, 110, 116, 101, 110, 116, 45, 84, 121, 112, 101]⟩ : ByteArray), bt648.1⟩ : S69)] : List (S69))) ([] : List (S28)))))
def spec_l8Draw.l0 : Nat → Int → Int → List Int → Int → List (S69) → List (S28) → Option ((List (S69)) × List ByteArray × (List (S28)) × Int)
 | 0, _, _, _, _, _, _ => none
 | k + 1, x1, x6, x1000, x1001, x654000, x654002 => if x6 > 0 then ((spec_l8Draw.f k x1000 x1001 (wrap64 (x1 - 1))).bind fun bt659 => (if x654002.length < 1954687338268 then (spec_l8Draw.l0 k x1 (wrap64 (x6 - 1)) x1000 bt659.2.2.2 x654000 (x654002 ++ [(⟨bt659.1, bt659.2.1, bt659.2.2.1⟩ : S28)])) else (none))) else (some (x654000, ([] : List ByteArray), x654002, x1001))
def spec_l8Draw.f : Nat → List Int → Int → Int → Option ((List (S69)) × List ByteArray × (List (S28)) × Int)
 | 0, _, _, _ => none
 | k + 1, s0_0, s0_1, a1 => if a1 < 2 then (spec_l8Draw.j0 k a1 true s0_0 s0_1) else ((spec_l13Rd_pick.f k s0_0 s0_1 2).bind fun bt633 => (spec_l8Draw.j0 k a1 (bt633.1 == 0) s0_0 bt633.2))
end
def spec_l8Draw.T7 : Bool × List (List Nat × List Nat) := (true, [([], []), ([0], [0]), ([], []), ([], []), ([3], [3]), ([2, 4], [2, 4]), ([5], [5]), ([1, 6, 5], [1, 6]), ([0, 1, 2, 3, 4, 5, 6, 7], []), ([8, 7, 7, 0, 1, 2, 3, 4, 5, 6, 7], [7, 8])])
def spec_l8Draw.B7 : List Nat := [0, 1, 0, 0, 8, 28, 60, 127, 255, 511]
theorem spec_l8Draw.tab7 : rtab .any (opsOf Tryz.f56 7) = spec_l8Draw.T7 := by kernel_rfl
theorem spec_l8Draw.bits7 : waitsOk spec_l8Draw.T7.2 spec_l8Draw.B7 = true := by kernel_rfl
theorem spec_l8Draw.calls (k : Nat) : ∀ (g : Nat) (s0_0 : List Int) (s0_1 : Int) (a1 : Int) (r1 : List (S69)) (r2 : List ByteArray) (r3 : List (S28)) (r4 : Int) (w0 w : World) (hI : IsS109 w0 w g s0_0 s0_1) (hB : Below w0.heap.size w0 w) (h : spec_l8Draw.f k s0_0 s0_1 a1 = some (r1, r2, r3, r4)),
  Calls Tryz.prog 56 #[.pointer (some ⟨g, 0, none⟩), .int .i64 a1] w fun e w' => ∃ v0_ v1_ v2_ : Value, e = .returned (.agg #[v0_, v1_, v2_]) ∧ Kd.R k69 69 w' w.heap.size (fun _ => True) v0_ r1 ∧ Kd.R Kd.string 9 w' w.heap.size (fun _ => True) v1_ r2 ∧ Kd.R k28 28 w' w.heap.size (fun k_ => some k_ ≠ (v0_ : Value).ownBlock ∧ some k_ ≠ (v1_ : Value).ownBlock) v2_ r3 ∧ IsS109 w0 w' g s0_0 r4 ∧ Below w0.heap.size w0 w' ∧ KeepBut w w' g none := by
 induction k using Nat.strongRecOn with
 | _ k ih =>
 intro g s0_0 s0_1 a1 r1 r2 r3 r4 w0 w hI hB h
 cases k with
 | zero => exact absurd h (by simp [spec_l8Draw.f])
 | succ k =>
 simp only [spec_l8Draw.f] at h
 have hu28 := Tryz.underlying28
 have hu69 := Tryz.underlying69
 have HI0 := ak hI
 have HK := ak (KeepBut.refl w g none)
 have HL := ak hB.size
 clear hI
 have HW0 := ak hB.size
 have HB := ak hB
 clear hB
 have H : (if a1 < 2 then (spec_l8Draw.j0 k a1 true s0_0 s0_1) else ((spec_l13Rd_pick.f k s0_0 s0_1 2).bind fun bt633 => (spec_l8Draw.j0 k a1 (bt633.1 == 0) s0_0 bt633.2))) = some (r1, r2, r3, r4) := h
 clear h
 have HC3 := ak H
 clear H
 go_enter Tryz.func56, Tryz.ntmps56
 go_upto_region 1 with (refine bS HI0 HK HB HW0 4 #[.slice none 0 0, .slice none 0 0, .slice none 0 0] 28 ?_; clear HI0 HK HB; intro gb632 w4 BK632 GW632 GE632 NB0_632 NB632_0 hg hb HI0 HK HB; clear hb hg)
 (try simp only [Act.put, l_a, l_b, l_c])
 go_cut [13] (fun v13 wc => ∃ (kq : Nat) (x13_2 : Bool) (x1001_2 : Int), v13 = .bool x13_2 ∧ Aside0 (spec_l8Draw.j0 kq a1 x13_2 s0_0 x1001_2 = some (r1, r2, r3, r4)) ∧ Aside0 (kq ≤ k) ∧ Aside0 (wc.heap[gb632]? = some (.cells #[(.slice none 0 0), (.slice none 0 0), (.slice none 0 0)] 28 (0, 0))) ∧ Aside0 (IsS109 w0 wc g s0_0 x1001_2) ∧ Aside0 (KeepBut w wc g none) ∧ Aside0 (Below w0.heap.size w0 wc))
 case first =>
  have H := HC3.out
  clear HC3
  replace H := sd H
  rcases H with ⟨c5b0, H⟩ | ⟨c5b0, H⟩
  ·
   (first | rw [c5b0] | (simp only [i64_w, i32_w]; rw [c5b0]) | skip)
   have H' := ak H; clear H
   go_wp2
   go_meet
   case rel => exact ⟨_, _, _, rs, H', ⟨le_⟩, ⟨ub BK632.out⟩, ⟨is_⟩, ⟨kh HK.out⟩, ⟨bi_⟩⟩
  ·
   (first | rw [c5b0] | (simp only [i64_w, i32_w]; rw [c5b0]) | skip)
   replace H := bd H
   obtain ⟨⟨t633, t634⟩, A6, H⟩ := H
   (try dsimp only at H)
   have H' := ak H; clear H
   go_wp2_with (go_at_call 57; (with_reducible refine (spec_l13Rd_pick.calls w0 ?side1 ?side2 A6.out).mono ?_); (case side1 => exact is_); (case side2 => exact bi_); rintro e w7 ⟨rfl, hi, hb, hk⟩; replace BK632 := kc BK632 hk NB632_0; replace HK := kt HK hk; replace HB := ak (hb); replace HI0 := ak (hi); clear hb; (try clear hk); (try clear hi))
   go_meet
   case rel => exact ⟨_, _, _, rs, H', ⟨le_⟩, ⟨ub BK632.out⟩, ⟨is_⟩, ⟨kh HK.out⟩, ⟨bi_⟩⟩
 case rest =>
  clear HC3
  obtain ⟨kq, x13_2, x1001_2, rfl, HA, HJ2, BK632, HI0, HK, HB⟩ := hcut
  cases kq with
  | zero => exact zz HA.out
  | succ kj2 =>
   obtain ⟨H⟩ := HA
   simp only [spec_l8Draw.j0] at H
   replace H := sb H
   rcases H with ⟨rfl, H⟩ | ⟨rfl, H⟩
   ·
    replace H := bd H
    obtain ⟨⟨t635, t638, t641, t644⟩, A9, H⟩ := H
    (try dsimp only at H)
    obtain ⟨rfl, rfl, rfl, rfl⟩ := s4 H
    go_wp2_with (refine gL 98 15 Tryz.func98 #[.pointer (some ⟨g, 0, none⟩)] ?_; (with_reducible refine (spec_l8Leaf.calls w0 ?side1 ?side2 A9.out).mono ?_); (case side1 => exact is_); (case side2 => exact bi_); rintro e w10 ⟨v636, v639, v642, rfl, ho0, ho1, ho2, hi, hb, hk⟩; refine ⟨_, rfl, ?_⟩; have HO637 := ak (Kd.R_lower ho0 (keep_size (w := w) (g := g) (row := none) (kh HK.out))); have HO640 := ak (Kd.R_lower ho1 (keep_size (w := w) (g := g) (row := none) (kh HK.out))); have HO643 := ak (Kd.R_lower (Kd.R_newB ho2 (g := gb632) (o := .cells #[.slice none 0 0, .slice none 0 0, .slice none 0 0] 28 (0, 0)) (ub BK632.out)) (keep_size (w := w) (g := g) (row := none) (kh HK.out))); replace BK632 := kc BK632 hk NB632_0; replace HK := kt HK hk; replace HB := ak (hb); replace HI0 := ak (hi); clear hb; (try clear hk); (try clear hi); (try clear ho0); (try clear ho1); (try clear ho2); obtain ⟨Ao11, co11, eo11⟩ := Kd.R_slice HO637.out; subst eo11; have hnb12 := NB632_0.out; have hnc12 := NB0_632.out; have z13 := cz3 BK632.out; obtain ⟨Ao14, co14, eo14⟩ := Kd.R_slice HO640.out; subst eo14; obtain ⟨Ao15, co15, eo15⟩ := Kd.R_slice HO643.out; subst eo15)
    refine bodyPost_ret (results_cell_row rfl _ _ gb632 28 #[.slice Ao11 t635.length co11, .slice Ao14 t638.length co14, .slice Ao15 t641.length co15] (0, 0) _ rfl bq Tryz.underlying28 rfl (by kernel_rfl)) rfl ?_
    exact ⟨_, _, _, er, rr, rr, rr, is_, bi_, kh HK.out⟩
   ·
    obtain ⟨y645, Ny645⟩ := nm ([(⟨#[109, 117, 108, 116, 105, 112, 97, 114, 116, 47, 109, 105, 120, 101, 100, 59, 32, 98, 111, 117, 110, 100, 97, 114, 121, 61, 98, 48]⟩ : ByteArray), (⟨#[77, 117, 108, 116, 105, 112, 97, 114, 116, 47, 97, 108, 116, 101, 114, 110, 97, 116, 105, 118, 101, 59, 32, 66, 111, 117, 110, 100, 97, 114, 121, 61, 98, 50]⟩ : ByteArray), (⟨#[109, 117, 108, 116, 105, 112, 97, 114, 116, 47, 109, 105, 120, 101, 100, 59, 32, 98, 111, 117, 110, 100, 97, 114, 121, 61, 120, 121, 122]⟩ : ByteArray)] : List ByteArray)
    rw [← Ny645.out] at H
    replace H := bd H
    obtain ⟨⟨t648, t649⟩, A16, H⟩ := H
    (try dsimp only at H)
    obtain ⟨y650, Ny650⟩ := nm ([(⟨(⟨#[83, 117, 98, 106, 101, 99, 116]⟩ : ByteArray), (⟨#[109, 97, 110, 121]⟩ : ByteArray)⟩ : S69), (⟨(⟨#[67, 111, 110, 116, 101, 110, 116, 45, 84, 121, 112, 101]⟩ : ByteArray), t648⟩ : S69)] : List (S69))
    rw [← Ny650.out] at H
    obtain ⟨y654, Ny654⟩ := nm ([2, 1, 3] : List Int)
    rw [← Ny654.out] at H
    replace H := bd H
    obtain ⟨⟨t657, t658⟩, A17, H⟩ := H
    (try dsimp only at H)
    have H' := ak H; clear H
    go_wp2_with (first | (refine lRM 18 Kd.string 9 [.string (⟨#[109, 117, 108, 116, 105, 112, 97, 114, 116, 47, 109, 105, 120, 101, 100, 59, 32, 98, 111, 117, 110, 100, 97, 114, 121, 61, 98, 48]⟩ : ByteArray), .string (⟨#[77, 117, 108, 116, 105, 112, 97, 114, 116, 47, 97, 108, 116, 101, 114, 110, 97, 116, 105, 118, 101, 59, 32, 66, 111, 117, 110, 100, 97, 114, 121, 61, 98, 50]⟩ : ByteArray), .string (⟨#[109, 117, 108, 116, 105, 112, 97, 114, 116, 47, 109, 105, 120, 101, 100, 59, 32, 98, 111, 117, 110, 100, 97, 114, 121, 61, 120, 121, 122]⟩ : ByteArray)] Ny645 (Reps.one (show Kd.M Kd.string _ _ _ (⟨#[109, 117, 108, 116, 105, 112, 97, 114, 116, 47, 109, 105, 120, 101, 100, 59, 32, 98, 111, 117, 110, 100, 97, 114, 121, 61, 98, 48]⟩ : ByteArray) [.string (⟨#[109, 117, 108, 116, 105, 112, 97, 114, 116, 47, 109, 105, 120, 101, 100, 59, 32, 98, 111, 117, 110, 100, 97, 114, 121, 61, 98, 48]⟩ : ByteArray)] from rfl) (Reps.one (show Kd.M Kd.string _ _ _ (⟨#[77, 117, 108, 116, 105, 112, 97, 114, 116, 47, 97, 108, 116, 101, 114, 110, 97, 116, 105, 118, 101, 59, 32, 66, 111, 117, 110, 100, 97, 114, 121, 61, 98, 50]⟩ : ByteArray) [.string (⟨#[77, 117, 108, 116, 105, 112, 97, 114, 116, 47, 97, 108, 116, 101, 114, 110, 97, 116, 105, 118, 101, 59, 32, 66, 111, 117, 110, 100, 97, 114, 121, 61, 98, 50]⟩ : ByteArray)] from rfl) (Reps.one (show Kd.M Kd.string _ _ _ (⟨#[109, 117, 108, 116, 105, 112, 97, 114, 116, 47, 109, 105, 120, 101, 100, 59, 32, 98, 111, 117, 110, 100, 97, 114, 121, 61, 120, 121, 122]⟩ : ByteArray) [.string (⟨#[109, 117, 108, 116, 105, 112, 97, 114, 116, 47, 109, 105, 120, 101, 100, 59, 32, 98, 111, 117, 110, 100, 97, 114, 121, 61, 120, 121, 122]⟩ : ByteArray)] from rfl) (Reps.none _ _)))) ?_; intro v646 w18 ho19 hb; have HO647 := ak (Kd.R_lower ho19 (keep_size (w := w) (g := g) (row := none) (kh HK.out))); replace BK632 := kb BK632 hb; replace HK := ak (KeepBut.trans (kh HK.out) (KeepBut.of_below hb g none) (.inl rfl)); replace HB := ak (below_step bi_ hb); replace HI0 := ak (IsS109.below is_ hb); clear hb ho19; obtain ⟨Ao20, co20, eo20⟩ := Kd.R_slice HO647.out; subst eo20) | (refine gL 58 19 Tryz.func58 #[.pointer (some ⟨g, 0, none⟩), .slice Ao20 y645.length co20] ?_; (with_reducible refine (spec_l13Rd_of.calls w0 ?side1 ?side2 (cu ((Kd.R_reads' HO647.out).2.2)) ((Kd.R_reads' HO647.out).2.1) (far_slice (IsS109.own_ne HI0.out HO647.out (by decide))) A16.out).mono ?_); (case side1 => exact is_); (case side2 => exact bi_); rintro e w21 ⟨rfl, hi, hb, hk⟩; refine ⟨_, rfl, ?_⟩; replace BK632 := kc BK632 hk NB632_0; replace HO647 := ki HO647 hk; replace HK := kt HK hk; replace HB := ak (hb); replace HI0 := ak (hi); clear hb; (try clear hk); (try clear hi)) | (refine lRM 21 k69 69 [.string (⟨#[83, 117, 98, 106, 101, 99, 116]⟩ : ByteArray), .string (⟨#[109, 97, 110, 121]⟩ : ByteArray), .string (⟨#[67, 111, 110, 116, 101, 110, 116, 45, 84, 121, 112, 101]⟩ : ByteArray), .string t648] Ny650 (Reps.c2 (show Kd.M k69 _ _ _ (⟨(⟨#[83, 117, 98, 106, 101, 99, 116]⟩ : ByteArray), (⟨#[109, 97, 110, 121]⟩ : ByteArray)⟩ : S69) [.string (⟨#[83, 117, 98, 106, 101, 99, 116]⟩ : ByteArray), .string (⟨#[109, 97, 110, 121]⟩ : ByteArray)] from (k69_mkM _ _ _ (⟨(⟨#[83, 117, 98, 106, 101, 99, 116]⟩ : ByteArray), (⟨#[109, 97, 110, 121]⟩ : ByteArray)⟩ : S69) )) (Reps.c2 (show Kd.M k69 _ _ _ (⟨(⟨#[67, 111, 110, 116, 101, 110, 116, 45, 84, 121, 112, 101]⟩ : ByteArray), t648⟩ : S69) [.string (⟨#[67, 111, 110, 116, 101, 110, 116, 45, 84, 121, 112, 101]⟩ : ByteArray), .string t648] from (k69_mkM _ _ _ (⟨(⟨#[67, 111, 110, 116, 101, 110, 116, 45, 84, 121, 112, 101]⟩ : ByteArray), t648⟩ : S69) )) (Reps.none _ _))) ?_; intro v651 w22 ho23 hb; have HO652 := ak (Kd.R_lower ho23 (keep_size (w := w) (g := g) (row := none) (kh HK.out))); replace HO647 := rb HO647 hb; replace BK632 := kb BK632 hb; replace HK := ak (KeepBut.trans (kh HK.out) (KeepBut.of_below hb g none) (.inl rfl)); replace HB := ak (below_step bi_ hb); replace HI0 := ak (IsS109.below is_ hb); clear hb ho23; obtain ⟨Ao24, co24, eo24⟩ := Kd.R_slice HO652.out; subst eo24) | (refine bS HI0 HK HB HW0 5 #[.slice none 0 0, .slice none 0 0, .slice none 0 0] 28 ?_; clear HI0 HK HB; intro gb653 w25 BK653 GW653 GE653 NB0_653 NB653_0 hg hb HI0 HK HB; have NB632_653 := nl_ BK632 hg; have NB653_632 := ng_ BK632 hg; replace HO647 := rb HO647 hb; replace HO652 := rb HO652 hb; replace BK632 := kb BK632 hb; clear hb hg; have hnb26 := NB653_632.out; have hnc26 := NB632_653.out; have hnb27 := NB653_0.out; have hnc27 := NB0_653.out; have z28 := cz3 BK653.out) | (refine lRM 24 (Kd.int .i64) 3 [.int .i64 2, .int .i64 1, .int .i64 3] Ny654 (Reps.one (show Kd.M (Kd.int .i64) _ _ _ 2 [.int .i64 2] from rfl) (Reps.one (show Kd.M (Kd.int .i64) _ _ _ 1 [.int .i64 1] from rfl) (Reps.one (show Kd.M (Kd.int .i64) _ _ _ 3 [.int .i64 3] from rfl) (Reps.none _ _)))) ?_; intro v655 w29 ho30 hb; have HO656 := ak (Kd.R_lower ho30 (keep_size (w := w) (g := g) (row := none) (kh HK.out))); replace HO647 := rg HO647 hb; replace HO652 := rg HO652 hb; replace BK632 := kp BK632 #[.slice none 0 0, .slice none 0 0, .slice none 0 0] hb; replace BK653 := kp BK653 #[.slice Ao24 y650.length co24, .slice none 0 0, .slice none 0 0] hb; replace HK := ak (KeepBut.trans (kh HK.out) (KeepBut.of_below hb g none) (.inl rfl)); replace HB := ak (below_step bi_ hb); replace HI0 := ak (IsS109.below (show IsS109 w0 (((w25.setCell ⟨gb653, 0, none⟩ (.slice Ao24 y650.length co24)).setCell ⟨gb653, 1, none⟩ (.slice none 0 0)).setCell ⟨gb653, 2, none⟩ (.slice none 0 0)) g s0_0 t649 from is_) hb); clear hb ho30; obtain ⟨Ao31, co31, eo31⟩ := Kd.R_slice HO656.out; subst eo31) | (refine gL 97 25 Tryz.func97 #[.pointer (some ⟨g, 0, none⟩), .slice Ao31 y654.length co31] ?_; (with_reducible refine (spec_l13Rd_num.calls w0 ?side1 ?side2 (cu ((Kd.R_reads' HO656.out).2.2)) ((Kd.R_reads' HO656.out).2.1) (far_slice (IsS109.own_ne HI0.out HO656.out (by decide))) A17.out).mono ?_); (case side1 => exact is_); (case side2 => exact bi_); rintro e w32 ⟨rfl, hi, hb, hk⟩; refine ⟨_, rfl, ?_⟩; replace BK632 := kc BK632 hk NB632_0; replace HO647 := ki HO647 hk; replace HO652 := ki HO652 hk; replace BK653 := kc BK653 hk NB653_0; replace HO656 := ki HO656 hk; replace HK := kt HK hk; replace HB := ak (hb); replace HI0 := ak (hi); clear hb; (try clear hk); (try clear hi)))
    go_loopg [6] kj2 (fun kq v6 w' => ∃ (x6_2 : Int) (x1001_2 : Int) (x654002_2 : List (S28)) (u654002 : Value), v6 = .int .i64 x6_2 ∧ Aside0 (spec_l8Draw.l0 kq a1 x6_2 s0_0 x1001_2 y650 x654002_2 = some (r1, r2, r3, r4)) ∧ Aside0 (kq ≤ kj2) ∧ Aside0 (Kd.R k69 69 w' w.heap.size (fun _ => True) (.slice Ao24 y650.length co24) y650) ∧ Aside0 (Kd.R k28 28 w' w.heap.size (fun k_ => some k_ ≠ ((.slice Ao24 y650.length co24) : Value).ownBlock ∧ k_ ≠ gb632 ∧ k_ ≠ gb653) u654002 x654002_2) ∧ Aside0 (w'.heap[gb632]? = some (.cells #[(.slice none 0 0), (.slice none 0 0), (.slice none 0 0)] 28 (0, 0))) ∧ Aside0 (w'.heap[gb653]? = some (.cells #[(.slice Ao24 y650.length co24), (.slice none 0 0), u654002] 28 (0, 0))) ∧ Aside0 (IsS109 w0 w' g s0_0 x1001_2) ∧ Aside0 (KeepBut w w' g none) ∧ Aside0 (Below w0.heap.size w0 w'))
    case atStart => exact ⟨_, _, _, _, rs, H', ⟨Nat.le_refl _⟩, ⟨ur HO652.out⟩, ⟨nx⟩, ⟨ub BK632.out⟩, ⟨ub BK653.out⟩, ⟨is_⟩, ⟨kh HK.out⟩, ⟨bi_⟩⟩
    case round =>
     clear H'
     try clear c2
     obtain ⟨x6_2, x1001_2, x654002_2, u654002, rfl, HA, HK2, HO_654000, HO_654002, BK632, BK653, HI0, HK, HB⟩ := hrel
     cases gk with
     | zero => exact zz HA.out
     | succ k2 =>
      obtain ⟨H⟩ := HA
      simp only [spec_l8Draw.l0] at H
      replace H := sp H
      rcases H with ⟨c33, H⟩ | ⟨c33, H⟩
      ·
       have c33b0 : decide (0 < x6_2) = true := decide_eq_true c33
       clear c33
       replace H := bd H
       obtain ⟨⟨t659, t662, t665, t668⟩, A34, H⟩ := H
       (try dsimp only at H)
       replace H := nl H; obtain ⟨LMc35, H⟩ := H
       obtain ⟨y669, Ny669⟩ := nm (x654002_2 ++ [(⟨t659, t662, t665⟩ : S28)])
       rw [← Ny669.out] at H
       have H' := ak H; clear H
       try go_wp2
       replace HO_654000 := ak (Kd.R_drew HO_654000.out)
       replace HO_654002 := ak (Kd.R_drew HO_654002.out)
       replace BK632 := ak (blk_drew BK632.out)
       replace BK653 := ak (blk_drew BK653.out)
       replace HI0 := ak (IsS109.drew HI0.out)
       replace HK := ak (keep_drew HK.out)
       replace HB := ak (below_drew1 HB.out)
       refine start_ (n := 10) (S := fun w' => w'.cell? ⟨gb653, 0, none⟩ = some (.slice Ao24 y650.length co24) ∧ w'.cell? ⟨gb653, 1, none⟩ = some (.slice none 0 0) ∧ w'.cell? ⟨gb653, 2, none⟩ = some (u654002)) (ds := [9]) #[false, false, false, false, false, false, false, false, false, false] (by kernel_rfl) rfl rfl ⟨(blk_cell BK653.out 0).trans rfl, (blk_cell BK653.out 1).trans rfl, (blk_cell BK653.out 2).trans rfl⟩ (fun hHeld => ?_); refine with_tabW spec_l8Draw.tab7 spec_l8Draw.bits7 (fun HT_ HW_ => ?_)
       generalize wr.drew = w36 at HO_654000 HO_654002 BK632 BK653 HI0 HK HB hHeld ⊢
       refine pl 0 ?_
       refine pl 2 ?_
       refine pl 3 ?_
       refine pl 4 ?_
       refine tk 1 ?_
       refine o1 5 (fun K hK => ?_)
       refine goes_ Tryz.func56 (by kernel_rfl) rfl #[.pointer (some ⟨g, 0, none⟩), .int .i64 (wrap64 (a1 - 1))] (by rfl) rfl rfl ma ?_
       with_reducible refine (ih k2 (by have := HJ2.out; have := HK2.out; omega) g s0_0 x1001_2 (wrap64 (a1 - 1)) t659 t662 t665 t668 w0 _ ?side1 ?side2 A34.out).mono ?_
       (case side1 => exact is_)
       (case side2 => exact bi_)
       rintro e w37 ⟨v660, v663, v666, rfl, ho0, ho1, ho2, hi, hb, hk⟩
       refine ⟨_, rfl, ?_⟩
       have HO661 := ak (Kd.R_lower (Kd.R_new' ho0 (Kd.R_lt (ur HO_654000.out))) (keep_size (w := w) (g := g) (row := none) (kh HK.out)))
       have HO664 := ak (Kd.R_lower ho1 (keep_size (w := w) (g := g) (row := none) (kh HK.out)))
       have HO667 := ak (Kd.R_lower (Kd.R_newB (Kd.R_newB (Kd.R_new' (Kd.R_new' ho2 (Kd.R_lt (ur HO_654000.out))) (Kd.R_lt (ur HO_654002.out))) (g := gb632) (o := .cells #[.slice none 0 0, .slice none 0 0, .slice none 0 0] 28 (0, 0)) (ub BK632.out)) (g := gb653) (o := .cells #[.slice Ao24 y650.length co24, .slice none 0 0, u654002] 28 (0, 0)) (ub BK653.out)) (keep_size (w := w) (g := g) (row := none) (kh HK.out)))
       replace HO_654000 := kj HO_654000 hk ho0
       replace HO_654002 := ak (Kd.R_mono (Kd.R_told (Kd.R_told (Kd.R_told (Kd.R_oldK (IsS109.apart (show IsS109 w0 _ g s0_0 x1001_2 from is_) (ur HO_654002.out) (by decide)) hk) (Kd.R_base ho0)) (Kd.R_base ho1)) (Kd.R_base ho2)) (fun _ h_ => h_.1))
       replace BK632 := kc BK632 hk NB632_0
       replace BK653 := kc BK653 hk NB653_0
       replace HK := kt HK hk
       replace HB := ak (hb)
       replace HI0 := ak (hi)
       try clear hb
       try clear hk
       try clear hi
       try clear ho0
       try clear ho1
       try clear ho2
       obtain ⟨Ao39, co39, eo39⟩ := Kd.R_slice HO661.out
       (first | subst eo39 | (injection eo39 with f1_ f2_ f3_; have f4_ := f1_.symm; have f5_ := f3_.symm; clear f1_ f2_ f3_; subst f4_; subst f5_))
       obtain ⟨Ao40, co40, eo40⟩ := Kd.R_slice HO664.out
       (first | subst eo40 | (injection eo40 with f1_ f2_ f3_; have f4_ := f1_.symm; have f5_ := f3_.symm; clear f1_ f2_ f3_; subst f4_; subst f5_))
       obtain ⟨Ao41, co41, eo41⟩ := Kd.R_slice HO667.out
       (first | subst eo41 | (injection eo41 with f1_ f2_ f3_; have f4_ := f1_.symm; have f5_ := f3_.symm; clear f1_ f2_ f3_; subst f4_; subst f5_))
       refine hK.out _ _ sx (fun hHeld => ?_)
       clear hK K
       refine nrm ?_
       refine o1 6 (fun K hK => ?_)
       refine value_ (w1 := ?_) (v := ?_) (by rfl) rfl ?_ ?_
       rotate_left 2
       ·
        go_simp
        constructor
        ·
         rfl
        ·
         rfl
       refine hK.out _ _ ⟨(blk_cell (blk_alloc BK653.out _) 0).trans rfl, (blk_cell (blk_alloc BK653.out _) 1).trans rfl, (blk_cell (blk_alloc BK653.out _) 2).trans rfl⟩ (fun hHeld => ?_)
       clear hK K
       refine nrm ?_
       refine o1 7 (fun K hK => ?_)
       refine Kd.R_append_step k28 w.heap.size (by rfl) (.tmp 31) (.tmp 36) 26 28 (.agg #[(.slice none 0 0), (.slice none 0 0), (.slice none 0 0)]) 72 rfl Tryz.underlying26 info28 rfl (by decide) (by omega) u654002 x654002_2 (⟨t659, t662, t665⟩ : S28) [.slice Ao39 t659.length co39, .slice Ao40 t662.length co40, .slice Ao41 t665.length co41] (fun k_ => some k_ ≠ (.slice Ao24 y650.length co24 : Value).ownBlock ∧ k_ ≠ gb632 ∧ k_ ≠ gb653) (fun k_ => ((fun k_ => some k_ ≠ (.slice Ao24 y650.length co24 : Value).ownBlock ∧ k_ ≠ gb632 ∧ k_ ≠ gb653)) k_ ∧ some k_ ≠ (u654002 : Value).ownBlock) rfl rfl ?aP (fun _ hk => hk) ?aF ?aO (Below.refl _ _) ?aS ?aL ?_
       (case aP => exact k28_mkM _ _ _ (⟨t659, t662, t665⟩ : S28) (Kd.R_mono (Kd.R_types (Kd.R_types (Kd.R_apart' (HO661.out) (Kd.R_typed HO_654002.out) (by decide)) BK632.out (by decide)) BK653.out (by decide)) (fun k_ hk => ⟨⟨hk.1.1.1.2, ⟨hk.1.2, hk.2⟩⟩, hk.1.1.2⟩)) (Kd.R_mono (Kd.R_types (Kd.R_types (Kd.R_apart' (Kd.R_apart' (HO664.out) (Kd.R_typed HO_654000.out) (by decide)) (Kd.R_typed HO_654002.out) (by decide)) BK632.out (by decide)) BK653.out (by decide)) (fun k_ hk => ⟨⟨hk.1.1.1.2, ⟨hk.1.2, hk.2⟩⟩, hk.1.1.2⟩)) (Kd.R_mono (HO667.out) (fun k_ hk => ⟨⟨hk.1.1.1.2, ⟨hk.1.2, hk.2⟩⟩, hk.1.1.2⟩)))
       (case aF => exact (fun k_ hk => ⟨Kd.fresh' (Kd.R_lt (ur HO_654000.out)) k_ hk, Kd.freshB (g := gb632) (o := .cells #[.slice none 0 0, .slice none 0 0, .slice none 0 0] 28 (0, 0)) (ub BK632.out) k_ hk, Kd.freshB (g := gb653) (o := .cells #[.slice Ao24 y650.length co24, .slice none 0 0, u654002] 28 (0, 0)) (ub BK653.out) k_ hk⟩))
       (case aO => exact (ur (Kd.R_mono HO_654002.out (fun _ hk => ⟨hk.1.1.1.1, ⟨hk.1.1.1.2.1, hk.1.1.1.2.2⟩⟩))))
       (case aS => exact (keep_size (w := w) (g := g) (row := none) (kh HK.out)))
       (case aL => have := LMc35.out; omega)
       intro v670 w38 ho hb hg hat
       rw [← Ny669.out] at ho
       have n0_ := ak (Kd.R_over' (ur HO_654000.out) (Kd.R_typed (ur HO_654002.out)) (by decide) hg)
       have n1_ := ak (blk_grown (g := gb632) (o := .cells #[.slice none 0 0, .slice none 0 0, .slice none 0 0] 28 (0, 0)) (ub BK632.out) hg (Kd.R_away HO_654002.out (fun _ hk => hk.1.1.1.2.1)))
       have n2_ := ak (blk_grown (g := gb653) (o := .cells #[.slice Ao24 y650.length co24, .slice none 0 0, u654002] 28 (0, 0)) (ub BK653.out) hg (Kd.R_away HO_654002.out (fun _ hk => hk.1.1.1.2.2)))
       have n3_ := ak (IsS109.grown is_ hg (IsS109.own_ne HI0.out HO_654002.out (by decide)))
       have n4_ := ak (below_weaken bi_ HL.out hb)
       have n5_ := ak (KeepBut.trans (kh HK.out) (KeepBut.of_grown hg g) (Kd.R_base2 HO_654002.out))
       have n6_ := ak (ho)
       clear HO_654000 BK632 BK653 HI0 HB HK HO_654002 HO661 HO664 HO667
       have HO_654000 := n0_
       have BK632 := n1_
       have BK653 := n2_
       have HI0 := n3_
       have HB := n4_
       have HK := n5_
       have HO671 := n6_
       clear n0_ n1_ n2_ n3_ n4_ n5_ n6_ ho hb hg hat
       obtain ⟨Ao42, co42, eo42⟩ := Kd.R_slice HO671.out
       (first | subst eo42 | (injection eo42 with f1_ f2_ f3_; have f4_ := f1_.symm; have f5_ := f3_.symm; clear f1_ f2_ f3_; subst f4_; subst f5_))
       refine hK.out _ _ sx (fun hHeld => ?_)
       clear hK K
       refine nrm ?_
       refine pl 8 ?_
       refine last_ (i := 9) (N := none) #[true, true, true, true, true, true, true, true, true, true] rfl rfl (one_of HT_.out (by kernel_rfl)) (by decide) (fun K hK => ?_)
       have hs43 : w38.cell? ⟨gb653, 2, none⟩ = some (u654002) := (blk_cell BK653.out 2).trans rfl
       have hfs43 := blk_frozen BK653.out 2
       have hns43_0 := NB632_653.out
       have hms43_0 := NB653_632.out
       refine skip_ (w1 := ?_) (by rfl) rfl ?_ ?_
       rotate_left
       ·
        go_simp
        rfl
       refine hK.out _ _ ?_
       clear hK K
       refine done_ (done_of HT_.out (by kernel_rfl)) ?_
       try go_wp2
       go_roundg k2
       case measure => exact kl
       case rel => exact ⟨_, _, _, _, rs, H', ⟨kl⟩, ⟨rr⟩, ⟨rr⟩, ⟨bq⟩, ⟨bq⟩, ⟨is_⟩, ⟨kh HK.out⟩, ⟨bi_⟩⟩
      ·
       have c33b0 : decide (0 < x6_2) = false := decide_eq_false c33
       clear c33
       obtain ⟨rfl, rfl, rfl, rfl⟩ := s4 H
       have hnb44 := NB653_632.out
       have hnc44 := NB632_653.out
       have hnb45 := NB653_0.out
       have hnc45 := NB0_653.out
       have z46 := cz3 BK653.out
       have hnb47 := NB632_0.out
       have hnc47 := NB0_632.out
       have z48 := cz3 BK632.out
       obtain ⟨Ao49, co49, eo49⟩ := Kd.R_slice HO_654002.out
       subst eo49
       go_wp2
       refine bodyPost_ret (results_cell_row rfl _ _ gb632 28 #[.slice Ao24 y650.length co24, .slice none 0 0, .slice Ao49 x654002_2.length co49] (0, 0) _ rfl bq Tryz.underlying28 rfl (by kernel_rfl)) rfl ?_
       exact ⟨_, _, _, er, rr, nx, ur (Kd.R_mono (Kd.R_far (p := ⟨gb632, 2, none⟩) (Kd.R_far (p := ⟨gb632, 1, none⟩) (Kd.R_far (p := ⟨gb632, 0, none⟩) (Kd.R_mono HO_654002.out (fun k_ hk => (⟨hk, hk.2.1⟩ : _ ∧ k_ ≠ gb632))) (fun _ hk => hk.2) (.slice Ao24 y650.length co24)) (fun _ hk => hk.2) (.slice none 0 0)) (fun _ hk => hk.2) (.slice Ao49 x654002_2.length co49)) (fun _ hk => ⟨hk.1.1, (by simp [Value.ownBlock])⟩)), is_, bi_, kh HK.out⟩
end Go.Proofs.YtncdadcmghglkaaGreatDoor.PFnPartSame
