/- Printed walks; conditions: those in each statement. -/
import Derived.Test.YtncdadcmghglkaaGreatDoorVFnPartSameQt
import Derived.Test.YtncdadcmghglkaaGreatDoorVFnPartSameYt
import Derived.Test.YtncdadcmghglkaaGreatDoorPFnPartSamex0
-- short
-- dense
-- sq
-- sq2
namespace Go.Proofs.YtncdadcmghglkaaGreatDoor.PFnPartSame
open Go.RowKit Go.Proofs.YtncdadcmghglkaaGreatDoor.X Go.Proofs.YtncdadcmghglkaaGreatDoorW.PrintWords Go.Proofs.YtncdadcmghglkaaGreatDoorW.PrintLast Go.Proofs.YtncdadcmghglkaaGreatDoorW.PrintMore
attribute [local go_sem] max2_int min2_int max_two min_two max_three min_three max_four min_four   -- for this text's walks alone
set_option linter.unusedVariables false
set_option maxHeartbeats 8000000
set_option maxRecDepth 100000
set_option linter.unusedSimpArgs false
mutual
def spec_l13OwnPart.f : Nat → List (S69) → List ByteArray → List (S28) → Option ((List (S69)) × List ByteArray × (List (S28)))
 | 0, _, _, _ => none
 | k + 1, l0_0, l0_1, l0_2 => (some (([] : List (S69)) : List (S69))).bind fun y380 => (if y380.length + l0_0.length < 4398046511104 then ((some (([] : List ByteArray) : List ByteArray)).bind fun y386 => (if y386.length + l0_1.length < 8796093022208 then ((spec_l13OwnListPart.l0 k (([] : List (S28))) l0_2 (l0_2.length : Int) 0).bind fun t392 => (some ((y380 ++ l0_0), (y386 ++ l0_1), t392))) else (none))) else (none))
def spec_l13OwnListPart.l0 : Nat → List (S28) → List (S28) → Int → Int → Option ((List (S28)))
 | 0, _, _, _, _ => none
 | k + 1, x3, x7, x8, x9 => if x9 < x8 then (if 0 ≤ x9 then (if x9 < (x7.length : Int) then ((spec_l13OwnPart.f k ((rd_T28 x7 x9).f0) ((rd_T28 x7 x9).f1) ((rd_T28 x7 x9).f2)).bind fun bt106 => (if x3.length < 1954687338268 then (spec_l13OwnListPart.l0 k (x3 ++ [(⟨bt106.1, bt106.2.1, bt106.2.2⟩ : S28)]) x7 x8 (wrap64 (x9 + 1))) else (none))) else (none)) else (none)) else (some x3)
end
def spec_l13OwnListPart.f (k : Nat) (l0 : List (S28)) : Option ((List (S28))) := spec_l13OwnListPart.l0 k (([] : List (S28))) l0 (l0.length : Int) 0
theorem spec_l13OwnPart.f_succ (k : Nat) (l0_0 : List (S69)) (l0_1 : List ByteArray) (l0_2 : List (S28)) : spec_l13OwnPart.f (k + 1) l0_0 l0_1 l0_2 = ((some (([] : List (S69)) : List (S69))).bind fun y380 => (if y380.length + l0_0.length < 4398046511104 then ((some (([] : List ByteArray) : List ByteArray)).bind fun y386 => (if y386.length + l0_1.length < 8796093022208 then ((spec_l13OwnListPart.f k l0_2).bind fun t392 => (some ((y380 ++ l0_0), (y386 ++ l0_1), t392))) else (none))) else (none))) := by simp only [spec_l13OwnPart.f, spec_l13OwnListPart.f]
theorem spec_l13OwnPart.pair (k : Nat) : (∀ (A0_0 : Option Addr) (c0_0 : Nat) (l0_0 : List (S69)) (A0_1 : Option Addr) (c0_1 : Nat) (l0_1 : List ByteArray) (A0_2 : Option Addr) (c0_2 : Nat) (l0_2 : List (S28)) (r1 : List (S69)) (r2 : List ByteArray) (r3 : List (S28)) (w : World) (hr0_0 : Kd.C k69 w A0_0 l0_0.length l0_0) (hc0_0 : l0_0.length ≤ c0_0) (hr0_1 : Kd.C Kd.string w A0_1 l0_1.length l0_1) (hc0_1 : l0_1.length ≤ c0_1) (hr0_2 : Kd.C k28 w A0_2 l0_2.length l0_2) (hc0_2 : l0_2.length ≤ c0_2) (h : spec_l13OwnPart.f k l0_0 l0_1 l0_2 = some (r1, r2, r3)),
  Calls Tryz.prog 61 #[.agg #[.slice A0_0 l0_0.length c0_0, .slice A0_1 l0_1.length c0_1, .slice A0_2 l0_2.length c0_2]] w fun e w' => ∃ v0_ v1_ v2_ : Value, e = .returned (.agg #[v0_, v1_, v2_]) ∧ Kd.R k69 69 w' w.heap.size (fun _ => True) v0_ r1 ∧ Kd.R Kd.string 9 w' w.heap.size (fun _ => True) v1_ r2 ∧ Kd.R k28 28 w' w.heap.size (fun k_ => some k_ ≠ (v0_ : Value).ownBlock ∧ some k_ ≠ (v1_ : Value).ownBlock) v2_ r3 ∧ Below w.heap.size w w') ∧
  (∀ (A0 : Option Addr) (c0 : Nat) (l0 : List (S28)) (r : List (S28)) (w : World) (hr0 : Kd.C k28 w A0 l0.length l0) (hc0 : l0.length ≤ c0) (h : spec_l13OwnListPart.f k l0 = some r),
  Calls Tryz.prog 104 #[.slice A0 l0.length c0] w fun e w' => ∃ v0_ : Value, e = .returned (v0_) ∧ Kd.R k28 28 w' w.heap.size (fun _ => True) v0_ r ∧ Below w.heap.size w w') := by
 induction k using Nat.strongRecOn with
 | _ k ih =>
 refine ⟨?_, ?_⟩
 ·
  cases k with
  | zero => intro A0_0 c0_0 l0_0 A0_1 c0_1 l0_1 A0_2 c0_2 l0_2 r1 r2 r3 w hr0_0 hc0_0 hr0_1 hc0_1 hr0_2 hc0_2 h; exact absurd h (by simp [spec_l13OwnPart.f])
  | succ k =>
  have ihB := (ih k (Nat.lt_succ_self k)).2
  clear ih
  intro A0_0 c0_0 l0_0 A0_1 c0_1 l0_1 A0_2 c0_2 l0_2 r1 r2 r3 w hr0_0 hc0_0 hr0_1 hc0_1 hr0_2 hc0_2 h
  rw [spec_l13OwnPart.f_succ] at h
  have hu28 := Tryz.underlying28
  have HR0_0 := ak hr0_0
  have HC0_0 := ak hc0_0
  clear hr0_0 hc0_0
  have HR0_1 := ak hr0_1
  have HC0_1 := ak hc0_1
  clear hr0_1 hc0_1
  have HR0_2 := ak hr0_2
  have HC0_2 := ak hc0_2
  clear hr0_2 hc0_2
  have HB := ak (Below.refl w.heap.size w)
  have H : ((some (([] : List (S69)) : List (S69))).bind fun y380 => (if y380.length + l0_0.length < 4398046511104 then ((some (([] : List ByteArray) : List ByteArray)).bind fun y386 => (if y386.length + l0_1.length < 8796093022208 then ((spec_l13OwnListPart.f k l0_2).bind fun t392 => (some ((y380 ++ l0_0), (y386 ++ l0_1), t392))) else (none))) else (none))) = some (r1, r2, r3) := h
  clear h
  replace H := ny H
  obtain ⟨y380, Ny380, H⟩ := H
  replace H := nl H; obtain ⟨LMc2, H⟩ := H
  obtain ⟨y383, Ny383⟩ := nm (y380 ++ l0_0)
  rw [← Ny383.out] at H
  replace H := ny H
  obtain ⟨y386, Ny386, H⟩ := H
  replace H := nl H; obtain ⟨LMc3, H⟩ := H
  obtain ⟨y389, Ny389⟩ := nm (y386 ++ l0_1)
  rw [← Ny389.out] at H
  replace H := bd H; obtain ⟨t392, A4, H⟩ := H
  obtain ⟨rfl, rfl, rfl⟩ := s3 H
  go_enter Tryz.func61, Tryz.ntmps61
  go_wp2_with (first | (refine bX HB 1 #[.slice A0_0 l0_0.length c0_0, .slice A0_1 l0_1.length c0_1, .slice A0_2 l0_2.length c0_2] 28 ?_; intro gb378 w5 BK378 GW378 hb; replace HB := bs HB hb; clear hb) | (refine bY HB 2 #[.slice none 0 0, .slice none 0 0, .slice none 0 0] 28 ?_; intro gb379 w6 BK379 GW379 hg hb; have NB378_379 := nl_ BK378 hg; have NB379_378 := ng_ BK378 hg; replace BK378 := kb BK378 hb; replace HB := bz HB hb; clear hb hg) | (refine lRN 3 k69 69 Ny380 ?_; intro v381 w7 ho8 hb; have HO382 := ak (Kd.R_lower ho8 (below_size bb)); replace BK378 := kb BK378 hb; replace BK379 := kb BK379 hb; replace HB := bz HB hb; clear hb ho8; have hnb9 := NB378_379.out; have hnc9 := NB379_378.out; have z10 := cz3 BK378.out) | ((with_reducible refine gate_builtin (b := .append) (xs := #[.tmp 3, .tmp 5]) rfl ?_); at_builtin; refine Kd.R_append_rows k69 (w0 := w) w.heap.size rfl (.tmp 3) (.tmp 5) 25 69 (.agg #[(.string ⟨#[]⟩), (.string ⟨#[]⟩)]) 32 rfl Tryz.underlying25 info69 rfl (by decide) (by omega) v381 y380 l0_0 _ _ _ (fun _ => True) (fun _ => False) rfl rfl ?aO ?aR (fun _ _ h => h) (fun _ h => h.elim) ?aF ?aB ?aS ?aL ?_; (case aR => repeat (first | exact (Kd.C_below HR0_0.out HB.out) | (with_reducible refine Kd.C_alloc ?_ _) | (with_reducible refine Kd.C_drewN ?_ _) | (with_reducible refine Kd.C_drew ?_))); (case aB => exact bb); (case aF => exact (fun _ _ => trivial)); (case aO => exact (ur HO382.out)); (case aS => exact (below_size bb)); (case aL => have := LMc2.out; omega); intro v384 w11 ho hb hg hat; rw [← Ny383.out] at ho; have HO385 := ak (ho); replace BK378 := ak (blk_grown (g := gb378) (o := .cells #[.slice A0_0 l0_0.length c0_0, .slice A0_1 l0_1.length c0_1, .slice A0_2 l0_2.length c0_2] 28 (0, 0)) (ub BK378.out) hg (Kd.R_ne HO382.out BK378.out (by decide))); replace BK379 := ak (blk_grown (g := gb379) (o := .cells #[.slice none 0 0, .slice none 0 0, .slice none 0 0] 28 (0, 0)) (ub BK379.out) hg (Kd.R_ne HO382.out BK379.out (by decide))); replace HB := ak (hb); clear ho hb hg hat HO382; obtain ⟨Ao12, co12, eo12⟩ := Kd.R_slice HO385.out; subst eo12; have z13 := cz3 BK378.out) | (refine lRN 8 Kd.string 9 Ny386 ?_; intro v387 w14 ho15 hb; have HO388 := ak (Kd.R_lower ho15 (below_size bb)); replace HO385 := rg HO385 hb; replace BK378 := kp BK378 #[.slice Ao12 y383.length co12, .slice A0_1 l0_1.length c0_1, .slice A0_2 l0_2.length c0_2] hb; replace BK379 := kp BK379 #[.slice none 0 0, .slice none 0 0, .slice none 0 0] hb; replace HB := bz HB hb; clear hb ho15; have z16 := cz3 BK378.out) | ((with_reducible refine gate_builtin (b := .append) (xs := #[.tmp 8, .tmp 10]) rfl ?_); at_builtin; refine Kd.R_append_rows Kd.string (w0 := w) w.heap.size rfl (.tmp 8) (.tmp 10) 23 9 (.string ⟨#[]⟩) 16 rfl Tryz.underlying23 info9 rfl (by decide) (by omega) v387 y386 l0_1 _ _ _ (fun _ => True) (fun _ => False) rfl rfl ?aO ?aR (fun _ _ h => h) (fun _ h => h.elim) ?aF ?aB ?aS ?aL ?_; (case aR => repeat (first | exact (Kd.C_below HR0_1.out HB.out) | (with_reducible refine Kd.C_alloc ?_ _) | (with_reducible refine Kd.C_drewN ?_ _) | (with_reducible refine Kd.C_drew ?_))); (case aB => exact bb); (case aF => exact (fun _ _ => trivial)); (case aO => exact (ur HO388.out)); (case aS => exact (below_size bb)); (case aL => have := LMc3.out; omega); intro v390 w17 ho hb hg hat; rw [← Ny389.out] at ho; have HO391 := ak (ho); replace BK378 := ak (blk_grown (g := gb378) (o := .cells #[.slice Ao12 y383.length co12, .slice A0_1 l0_1.length c0_1, .slice A0_2 l0_2.length c0_2] 28 (0, 0)) (ub BK378.out) hg (Kd.R_ne HO388.out BK378.out (by decide))); replace BK379 := ak (blk_grown (g := gb379) (o := .cells #[.slice none 0 0, .slice none 0 0, .slice none 0 0] 28 (0, 0)) (ub BK379.out) hg (Kd.R_ne HO388.out BK379.out (by decide))); replace HO385 := ak (Kd.R_over' (ur HO385.out) (Kd.R_typed (ur HO388.out)) (by decide) hg); replace HB := ak (hb); clear ho hb hg hat HO388; obtain ⟨Ao18, co18, eo18⟩ := Kd.R_slice HO391.out; subst eo18; have z19 := cz3 BK378.out) | (refine gV Tryz.func104 (ihB _ _ l0_2 t392 _ (Kd.C_below HR0_2.out bb) HC0_2.out A4.out) ?_; rintro v393 w20 ⟨ho0, hb⟩; have HO394 := ak (Kd.R_lower (Kd.R_newB (Kd.R_newB (Kd.R_new' (Kd.R_new' ho0 (Kd.R_lt (rh HO385))) (Kd.R_lt (rh HO391))) (g := gb378) (o := .cells #[.slice Ao12 y383.length co12, .slice Ao18 y389.length co18, .slice A0_2 l0_2.length c0_2] 28 (0, 0)) bq) (g := gb379) (o := .cells #[.slice none 0 0, .slice none 0 0, .slice none 0 0] 28 (0, 0)) bq) (below_size bb)); replace HO385 := rg HO385 hb; replace HO391 := rg HO391 hb; replace BK378 := kp BK378 #[.slice Ao12 y383.length co12, .slice Ao18 y389.length co18, .slice A0_2 l0_2.length c0_2] hb; replace BK379 := kp BK379 #[.slice none 0 0, .slice none 0 0, .slice none 0 0] hb; replace HB := bz HB hb; clear hb; (try clear ho0); obtain ⟨Ao21, co21, eo21⟩ := Kd.R_slice HO394.out; subst eo21; have z22 := cz3 BK378.out; have z23 := cz3 BK379.out))
  refine bodyPost_ret (results_cell_row rfl _ _ gb379 28 #[.slice Ao12 y383.length co12, .slice Ao18 y389.length co18, .slice Ao21 t392.length co21] (0, 0) _ rfl bq Tryz.underlying28 rfl (by kernel_rfl)) rfl ?_
  exact ⟨_, _, _, er, rr, rr, rr, bb⟩
 ·
  intro A0 c0 l0 r w hr0 hc0 h
  have hu28 := Tryz.underlying28
  have HR0 := ak hr0
  have HC0 := ak hc0
  clear hr0 hc0
  have HB := ak (Below.refl w.heap.size w)
  have H : (spec_l13OwnListPart.l0 k (([] : List (S28))) l0 (l0.length : Int) 0) = some r := h
  clear h
  obtain ⟨y101, Ny101⟩ := nm ([] : List (S28))
  rw [← Ny101.out] at H
  have H' := ak H; clear H
  go_enter Tryz.func104, Tryz.ntmps104
  go_wp2_with (refine lRN 6 k28 28 Ny101 ?_; intro v102 w2 ho3 hb; have HO103 := ak (Kd.R_lower ho3 (below_size (ul HB.out))); replace HB := bs HB hb; clear hb ho3)
  go_loopg [3, 9] k (fun kq v3 v9 w' => ∃ (x3_1 : List (S28)) (x9_1 : Int), v9 = .int .i64 x9_1 ∧ Aside0 (spec_l13OwnListPart.l0 kq x3_1 l0 (l0.length : Int) x9_1 = some r) ∧ Aside0 (kq ≤ k) ∧ Aside0 (Kd.R k28 28 w' w.heap.size (fun _ => True) v3 x3_1) ∧ Aside0 (Below w.heap.size w w'))
  case atStart => exact ⟨_, _, rs, H', ⟨Nat.le_refl _⟩, ⟨ur HO103.out⟩, ⟨ul HB.out⟩⟩
  case round =>
   clear H'
   obtain ⟨x3_1, x9_1, rfl, HA, HK1, HO_3, HB⟩ := hrel
   cases gk with
   | zero => exact zz HA.out
   | succ k1 =>
    obtain ⟨H⟩ := HA
    simp only [spec_l13OwnListPart.l0] at H
    replace H := sd H
    rcases H with ⟨c4b0, H⟩ | ⟨c4b0, H⟩
    ·
     replace H := nde H; obtain ⟨c5b0, H⟩ := H; replace H := nde H; obtain ⟨c6b0, H⟩ := H; replace H := bd H
     obtain ⟨⟨t106, t109, t112⟩, A7, H⟩ := H
     (try dsimp only at H)
     replace H := nl H; obtain ⟨LMc8, H⟩ := H
     obtain ⟨y115, Ny115⟩ := nm (x3_1 ++ [(⟨t106, t109, t112⟩ : S28)])
     rw [← Ny115.out] at H
     have H' := ak H; clear H
     have p104 := zi x9_1
     have q104 := zj x9_1 l0.length
     obtain ⟨ad104, A104_0, c104_0, A104_1, c104_1, A104_2, c104_2, e104, hx104_0, hx104_1, hx104_2, hl104_0, hi104_0, hl104_1, hi104_1, hl104_2, hi104_2⟩ := at_T28 HR0.out x9_1 p104 q104
     cases e104
     replace hx104_0 := cl HB.out hx104_0
     replace hx104_1 := cl HB.out hx104_1
     replace hx104_2 := cl HB.out hx104_2
     have HR104_0 := ak hi104_0
     have HC104_0 := ak hl104_0
     clear hi104_0 hl104_0
     have HR104_1 := ak hi104_1
     have HC104_1 := ak hl104_1
     clear hi104_1 hl104_1
     have HR104_2 := ak hi104_2
     have HC104_2 := ak hl104_2
     clear hi104_2 hl104_2
     replace p104 := eq_true p104
     replace q104 := eq_true q104
     go_wp2_with (first | (refine bY HB 5 #[.slice none 0 0, .slice none 0 0, .slice none 0 0] 28 ?_; intro gb105 w9 BK105 GW105 hg hb; replace HO_3 := ak (Kd.R_below (Kd.R_elderB (ur HO_3.out) gb105 (Nat.le_of_eq hg.symm)) hb); replace HB := bs HB hb; clear hb hg; have z10 := cz3 BK105.out) | (refine gL 61 15 Tryz.func61 #[.agg #[.slice A104_0 ((rd_T28 l0 x9_1).f0).length c104_0, .slice A104_1 ((rd_T28 l0 x9_1).f1).length c104_1, .slice A104_2 ((rd_T28 l0 x9_1).f2).length c104_2]] ?_; (with_reducible refine ((ih k1 (by have := HK1.out; omega)).1 _ _ ((rd_T28 l0 x9_1).f0) _ _ ((rd_T28 l0 x9_1).f1) _ _ ((rd_T28 l0 x9_1).f2) t106 t109 t112 _ (Kd.C_below HR104_0.out bb) HC104_0.out (Kd.C_below HR104_1.out bb) HC104_1.out (Kd.C_below HR104_2.out bb) HC104_2.out A7.out).mono ?_); rintro e w11 ⟨v107, v110, v113, rfl, ho0, ho1, ho2, hb⟩; refine ⟨_, rfl, ?_⟩; have HO108 := ak (Kd.R_lower ho0 (below_size bb)); have HO111 := ak (Kd.R_lower ho1 (below_size bb)); have HO114 := ak (Kd.R_lower (Kd.R_newB (Kd.R_new' ho2 (Kd.R_lt (ur (Kd.R_mono (Kd.R_far (p := ⟨gb105, 2, none⟩) (Kd.R_far (p := ⟨gb105, 1, none⟩) (Kd.R_far (p := ⟨gb105, 0, none⟩) (Kd.R_mono HO_3.out (fun k_ hk => (⟨hk, hk.2⟩ : _ ∧ k_ ≠ gb105))) (fun _ hk => hk.2) (.slice A104_0 ((rd_T28 l0 x9_1).f0).length c104_0)) (fun _ hk => hk.2) (.slice A104_1 ((rd_T28 l0 x9_1).f1).length c104_1)) (fun _ hk => hk.2) (.slice A104_2 ((rd_T28 l0 x9_1).f2).length c104_2)) (fun _ h_ => h_.1))))) (g := gb105) (o := .cells #[.slice A104_0 ((rd_T28 l0 x9_1).f0).length c104_0, .slice A104_1 ((rd_T28 l0 x9_1).f1).length c104_1, .slice A104_2 ((rd_T28 l0 x9_1).f2).length c104_2] 28 (0, 0)) bq) (below_size bb)); replace HO_3 := ak (Kd.R_mono (Kd.R_told (Kd.R_told (Kd.R_told (Kd.R_old (ur (Kd.R_mono (Kd.R_far (p := ⟨gb105, 2, none⟩) (Kd.R_far (p := ⟨gb105, 1, none⟩) (Kd.R_far (p := ⟨gb105, 0, none⟩) (Kd.R_mono HO_3.out (fun k_ hk => (⟨hk, hk.2⟩ : _ ∧ k_ ≠ gb105))) (fun _ hk => hk.2) (.slice A104_0 ((rd_T28 l0 x9_1).f0).length c104_0)) (fun _ hk => hk.2) (.slice A104_1 ((rd_T28 l0 x9_1).f1).length c104_1)) (fun _ hk => hk.2) (.slice A104_2 ((rd_T28 l0 x9_1).f2).length c104_2)) (fun _ h_ => h_.1))) hb) (Kd.R_base ho0)) (Kd.R_base ho1)) (Kd.R_base ho2)) (fun _ h_ => h_.1)); replace BK105 := kp BK105 #[.slice A104_0 ((rd_T28 l0 x9_1).f0).length c104_0, .slice A104_1 ((rd_T28 l0 x9_1).f1).length c104_1, .slice A104_2 ((rd_T28 l0 x9_1).f2).length c104_2] hb; replace HB := bz HB hb; clear hb; (try clear ho0); (try clear ho1); (try clear ho2); obtain ⟨Ao13, co13, eo13⟩ := Kd.R_slice HO108.out; subst eo13; obtain ⟨Ao14, co14, eo14⟩ := Kd.R_slice HO111.out; subst eo14; obtain ⟨Ao15, co15, eo15⟩ := Kd.R_slice HO114.out; subst eo15) | ((with_reducible refine gate_builtin (b := .append) (xs := #[.tmp 13, .tmp 16]) rfl ?_); at_builtin; refine Kd.R_append k28 (w0 := w) w.heap.size rfl (.tmp 13) (.tmp 16) 26 28 (.agg #[(.slice none 0 0), (.slice none 0 0), (.slice none 0 0)]) 72 rfl Tryz.underlying26 info28 rfl (by decide) (by omega) u3 x3_1 (⟨t106, t109, t112⟩ : S28) [.slice Ao13 t106.length co13, .slice Ao14 t109.length co14, .slice Ao15 t112.length co15] (fun k_ => k_ ≠ gb105) (fun k_ => ((fun k_ => k_ ≠ gb105)) k_ ∧ some k_ ≠ (u3 : Value).ownBlock) rfl rfl ?aP (fun _ hk => hk) ?aF ?aO ?aB ?aS ?aL ?_; (case aP => exact k28_mkM _ _ _ (⟨t106, t109, t112⟩ : S28) (Kd.R_mono (Kd.R_types (Kd.R_apart' (HO108.out) (Kd.R_typed HO_3.out) (by decide)) BK105.out (by decide)) (fun k_ hk => ⟨hk.2, hk.1.2⟩)) (Kd.R_mono (Kd.R_types (Kd.R_apart' (HO111.out) (Kd.R_typed HO_3.out) (by decide)) BK105.out (by decide)) (fun k_ hk => ⟨hk.2, hk.1.2⟩)) (Kd.R_mono (HO114.out) (fun k_ hk => ⟨hk.2, hk.1.2⟩))); (case aB => exact bb); (case aF => exact (fun k_ hk => Kd.freshB (g := gb105) (o := .cells #[.slice A104_0 ((rd_T28 l0 x9_1).f0).length c104_0, .slice A104_1 ((rd_T28 l0 x9_1).f1).length c104_1, .slice A104_2 ((rd_T28 l0 x9_1).f2).length c104_2] 28 (0, 0)) (ub BK105.out) k_ hk)); (case aO => exact (ur (Kd.R_mono HO_3.out (fun _ hk => hk.1.1.1.2)))); (case aS => exact (below_size bb)); (case aL => have := LMc8.out; omega); intro v116 w12 ho hb hg hat; rw [← Ny115.out] at ho; have HO117 := ak (ho); replace BK105 := ak (blk_grown (g := gb105) (o := .cells #[.slice A104_0 ((rd_T28 l0 x9_1).f0).length c104_0, .slice A104_1 ((rd_T28 l0 x9_1).f1).length c104_1, .slice A104_2 ((rd_T28 l0 x9_1).f2).length c104_2] 28 (0, 0)) (ub BK105.out) hg (Kd.R_away HO_3.out (fun _ hk => hk.1.1.1.2))); replace HB := ak (hb); clear ho hb hg hat HO_3 HO108 HO111 HO114))
     go_roundg k1
     case measure => exact kl
     case rel => exact ⟨_, _, rs, H', ⟨kl⟩, ⟨ur (Kd.R_mono HO117.out (fun _ hk => trivial))⟩, ⟨bb⟩⟩
    ·
     obtain rfl := s1 H
     go_wp2
     go_ret
     exact ⟨_, er, ur HO_3.out, ul HB.out⟩
theorem spec_l13OwnPart.calls {k c0_0 c0_1 c0_2 : Nat} {A0_0 A0_1 A0_2 : Option Addr} {l0_0 r1 : List (S69)} {l0_1 r2 : List ByteArray} {l0_2 r3 : List (S28)} {w : World} (hr0_0 : Kd.C k69 w A0_0 l0_0.length l0_0) (hc0_0 : l0_0.length ≤ c0_0) (hr0_1 : Kd.C Kd.string w A0_1 l0_1.length l0_1) (hc0_1 : l0_1.length ≤ c0_1) (hr0_2 : Kd.C k28 w A0_2 l0_2.length l0_2) (hc0_2 : l0_2.length ≤ c0_2) (h : spec_l13OwnPart.f k l0_0 l0_1 l0_2 = some (r1, r2, r3)) :
  Calls Tryz.prog 61 #[.agg #[.slice A0_0 l0_0.length c0_0, .slice A0_1 l0_1.length c0_1, .slice A0_2 l0_2.length c0_2]] w fun e w' => ∃ v0_ v1_ v2_ : Value, e = .returned (.agg #[v0_, v1_, v2_]) ∧ Kd.R k69 69 w' w.heap.size (fun _ => True) v0_ r1 ∧ Kd.R Kd.string 9 w' w.heap.size (fun _ => True) v1_ r2 ∧ Kd.R k28 28 w' w.heap.size (fun k_ => some k_ ≠ (v0_ : Value).ownBlock ∧ some k_ ≠ (v1_ : Value).ownBlock) v2_ r3 ∧ Below w.heap.size w w' := (spec_l13OwnPart.pair k).1 A0_0 c0_0 l0_0 A0_1 c0_1 l0_1 A0_2 c0_2 l0_2 r1 r2 r3 w hr0_0 hc0_0 hr0_1 hc0_1 hr0_2 hc0_2 h
theorem spec_l13OwnListPart.calls {k c0 : Nat} {A0 : Option Addr} {l0 r : List (S28)} {w : World} (hr0 : Kd.C k28 w A0 l0.length l0) (hc0 : l0.length ≤ c0) (h : spec_l13OwnListPart.f k l0 = some r) :
  Calls Tryz.prog 104 #[.slice A0 l0.length c0] w fun e w' => ∃ v0_ : Value, e = .returned (v0_) ∧ Kd.R k28 28 w' w.heap.size (fun _ => True) v0_ r ∧ Below w.heap.size w w' := (spec_l13OwnPart.pair k).2 A0 c0 l0 r w hr0 hc0 h
end Go.Proofs.YtncdadcmghglkaaGreatDoor.PFnPartSame
