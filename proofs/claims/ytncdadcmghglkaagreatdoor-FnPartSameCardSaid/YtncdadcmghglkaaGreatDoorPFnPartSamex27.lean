/- Printed walks; conditions: those in each statement. -/
import Derived.Test.YtncdadcmghglkaaGreatDoorVFnPartSameQt
import Derived.Test.YtncdadcmghglkaaGreatDoorVFnPartSameYt
import Derived.Test.YtncdadcmghglkaaGreatDoorPFnPartSamex0
import Derived.Test.YtncdadcmghglkaaGreatDoorPFnPartSamex2
-- short
-- dense
-- sq
-- sq2
namespace Go.Proofs.YtncdadcmghglkaaGreatDoor.PFnPartSame
open Go.RowKit Go.Proofs.YtncdadcmghglkaaGreatDoor.X Go.Proofs.YtncdadcmghglkaaGreatDoorW.PrintWords Go.Proofs.YtncdadcmghglkaaGreatDoorW.PrintLast Go.Proofs.YtncdadcmghglkaaGreatDoorW.PrintMore
attribute [local go_sem] max2_int min2_int max_two min_two max_three min_three max_four min_four   -- for this text's walks alone
set_option linter.unusedVariables false
set_option maxHeartbeats 8000000
set_option maxRecDepth 100000
set_option linter.unusedSimpArgs false
mutual
def impl_PartSame.f : Nat → List (S69) → List ByteArray → List (S28) → List (S69) → List ByteArray → List (S28) → Option (Bool)
 | 0, _, _, _, _, _, _ => none
 | k + 1, l0_0, l0_1, l0_2, l1_0, l1_1, l1_2 => (impl_Field_62.f k l0_0 l1_0).bind fun t107 => (if t107 = true then ((slices_Equal_string_string.f k l0_1 l1_1).bind fun t108 => (if t108 = true then ((if (l0_2.length : Int) = (l1_2.length : Int) then (impl_Part_PartSame.l0 k l1_2 l0_2 (l0_2.length : Int) 0) else (some false)).bind fun t109 => (some t109)) else (some false))) else (some false))
def impl_Part_PartSame.l0 : Nat → List (S28) → List (S28) → Int → Int → Option (Bool)
 | 0, _, _, _, _ => none
 | k + 1, x1, x15, x16, x17 => if x17 < x16 then (if 0 ≤ x17 then (if x17 < (x15.length : Int) then (if x17 < (x1.length : Int) then ((impl_PartSame.f k ((rd_T28 x15 x17).f0) ((rd_T28 x15 x17).f1) ((rd_T28 x15 x17).f2) ((rd_T28 x1 x17).f0) ((rd_T28 x1 x17).f1) ((rd_T28 x1 x17).f2)).bind fun t808 => (if t808 = true then (impl_Part_PartSame.l0 k x1 x15 x16 (wrap64 (x17 + 1))) else (some false))) else (none)) else (none)) else (none)) else (some true)
end
def impl_Part_PartSame.f (k : Nat) (l0 : List (S28)) (l1 : List (S28))  : Option (Bool) := if (l0.length : Int) = (l1.length : Int) then (impl_Part_PartSame.l0 k l1 l0 (l0.length : Int) 0) else (some false)
theorem impl_PartSame.f_succ (k : Nat) (l0_0 : List (S69)) (l0_1 : List ByteArray) (l0_2 : List (S28)) (l1_0 : List (S69)) (l1_1 : List ByteArray) (l1_2 : List (S28)) : impl_PartSame.f (k + 1) l0_0 l0_1 l0_2 l1_0 l1_1 l1_2 = ((impl_Field_62.f k l0_0 l1_0).bind fun t107 => (if t107 = true then ((slices_Equal_string_string.f k l0_1 l1_1).bind fun t108 => (if t108 = true then ((impl_Part_PartSame.f k l0_2 l1_2).bind fun t109 => (some t109)) else (some false))) else (some false))) := by simp only [impl_PartSame.f, impl_Part_PartSame.f]
theorem impl_PartSame.pair (k : Nat) : (∀ (A0_0 : Option Addr) (c0_0 : Nat) (l0_0 : List (S69)) (A0_1 : Option Addr) (c0_1 : Nat) (l0_1 : List ByteArray) (A0_2 : Option Addr) (c0_2 : Nat) (l0_2 : List (S28)) (A1_0 : Option Addr) (c1_0 : Nat) (l1_0 : List (S69)) (A1_1 : Option Addr) (c1_1 : Nat) (l1_1 : List ByteArray) (A1_2 : Option Addr) (c1_2 : Nat) (l1_2 : List (S28)) (r : Bool) (w : World) (hr0_0 : Kd.C k69 w A0_0 l0_0.length l0_0) (hc0_0 : l0_0.length ≤ c0_0) (hr0_1 : Kd.C Kd.string w A0_1 l0_1.length l0_1) (hc0_1 : l0_1.length ≤ c0_1) (hr0_2 : Kd.C k28 w A0_2 l0_2.length l0_2) (hc0_2 : l0_2.length ≤ c0_2) (hr1_0 : Kd.C k69 w A1_0 l1_0.length l1_0) (hc1_0 : l1_0.length ≤ c1_0) (hr1_1 : Kd.C Kd.string w A1_1 l1_1.length l1_1) (hc1_1 : l1_1.length ≤ c1_1) (hr1_2 : Kd.C k28 w A1_2 l1_2.length l1_2) (hc1_2 : l1_2.length ≤ c1_2) (h : impl_PartSame.f k l0_0 l0_1 l0_2 l1_0 l1_1 l1_2 = some r),
  Calls Tryz.prog 21 #[.agg #[.slice A0_0 l0_0.length c0_0, .slice A0_1 l0_1.length c0_1, .slice A0_2 l0_2.length c0_2], .agg #[.slice A1_0 l1_0.length c1_0, .slice A1_1 l1_1.length c1_1, .slice A1_2 l1_2.length c1_2]] w fun e w' => e = .returned (.bool r) ∧ Below w.heap.size w w') ∧
  (∀ (A0 : Option Addr) (c0 : Nat) (l0 : List (S28)) (A1 : Option Addr) (c1 : Nat) (l1 : List (S28)) (r : Bool) (w : World) (hr0 : Kd.C k28 w A0 l0.length l0) (hc0 : l0.length ≤ c0) (hr1 : Kd.C k28 w A1 l1.length l1) (hc1 : l1.length ≤ c1) (h : impl_Part_PartSame.f k l0 l1 = some r),
  Calls Tryz.prog 64 #[.slice A0 l0.length c0, .slice A1 l1.length c1, .func (.func 21) #[] #[]] w fun e w' => e = .returned (.bool r) ∧ Below w.heap.size w w') := by
 induction k using Nat.strongRecOn with
 | _ k ih =>
 refine ⟨?_, ?_⟩
 ·
  cases k with
  | zero => intro A0_0 c0_0 l0_0 A0_1 c0_1 l0_1 A0_2 c0_2 l0_2 A1_0 c1_0 l1_0 A1_1 c1_1 l1_1 A1_2 c1_2 l1_2 r w hr0_0 hc0_0 hr0_1 hc0_1 hr0_2 hc0_2 hr1_0 hc1_0 hr1_1 hc1_1 hr1_2 hc1_2 h; exact absurd h (by simp [impl_PartSame.f])
  | succ k =>
  have ihB := (ih k (Nat.lt_succ_self k)).2
  clear ih
  intro A0_0 c0_0 l0_0 A0_1 c0_1 l0_1 A0_2 c0_2 l0_2 A1_0 c1_0 l1_0 A1_1 c1_1 l1_1 A1_2 c1_2 l1_2 r w hr0_0 hc0_0 hr0_1 hc0_1 hr0_2 hc0_2 hr1_0 hc1_0 hr1_1 hc1_1 hr1_2 hc1_2 h
  rw [impl_PartSame.f_succ] at h
  have hu28 := Tryz.underlying28
  have HR0_0 := ak hr0_0
  have HC0_0 := ak hc0_0
  clear hr0_0 hc0_0
  have HR0_1 := ak hr0_1
  have HC0_1 := ak hc0_1
  clear hr0_1 hc0_1
  have HR0_2 := ak hr0_2
  have HC0_2 := ak hc0_2
  clear hr0_2 hc0_2
  have HR1_0 := ak hr1_0
  have HC1_0 := ak hc1_0
  clear hr1_0 hc1_0
  have HR1_1 := ak hr1_1
  have HC1_1 := ak hc1_1
  clear hr1_1 hc1_1
  have HR1_2 := ak hr1_2
  have HC1_2 := ak hc1_2
  clear hr1_2 hc1_2
  have HB := ak (Below.refl w.heap.size w)
  have H : ((impl_Field_62.f k l0_0 l1_0).bind fun t107 => (if t107 = true then ((slices_Equal_string_string.f k l0_1 l1_1).bind fun t108 => (if t108 = true then ((impl_Part_PartSame.f k l0_2 l1_2).bind fun t109 => (some t109)) else (some false))) else (some false))) = some r := h
  clear h
  replace H := bd H; obtain ⟨t107, A3, H⟩ := H; replace H := sb H
  rcases H with ⟨rfl, H⟩ | ⟨rfl, H⟩
  ·
   replace H := bd H; obtain ⟨t108, A5, H⟩ := H; replace H := sb H
   rcases H with ⟨rfl, H⟩ | ⟨rfl, H⟩
   ·
    replace H := bd H; obtain ⟨t109, A7, H⟩ := H
    obtain rfl := s1 H
    go_enter Tryz.func21, Tryz.ntmps21
    go_wp2_with (first | (refine bX HB 2 #[.slice A0_0 l0_0.length c0_0, .slice A0_1 l0_1.length c0_1, .slice A0_2 l0_2.length c0_2] 28 ?_; intro gb105 w8 BK105 GW105 hb; replace HB := bs HB hb; clear hb) | (refine bY HB 3 #[.slice A1_0 l1_0.length c1_0, .slice A1_1 l1_1.length c1_1, .slice A1_2 l1_2.length c1_2] 28 ?_; intro gb106 w9 BK106 GW106 hg hb; have NB105_106 := nl_ BK105 hg; have NB106_105 := ng_ BK105 hg; replace BK105 := kb BK105 hb; replace HB := bz HB hb; clear hb hg; have hnb10 := NB105_106.out; have hnc10 := NB106_105.out; have z11 := cz3 BK105.out; have z12 := cz3 BK106.out) | (refine gA Tryz.func62 (impl_Field_62.calls (cu (Kd.C_below HR0_0.out HB.out)) HC0_0.out (cu (Kd.C_below HR1_0.out HB.out)) HC1_0.out A3.out) ?_; intro nd) | (go_at_call 63; refine mA (slices_Equal_string_string.calls (cu (Kd.C_below HR0_1.out bb)) HC0_1.out (cu (Kd.C_below HR1_1.out bb)) HC1_1.out A5.out) ?_; intro nd) | (go_at_call 64; refine mB (ihB _ _ l0_2 _ _ l1_2  t109 _ (cu (Kd.C_below HR0_2.out bb)) HC0_2.out (cu (Kd.C_below HR1_2.out bb)) HC1_2.out A7.out) ?_; intro w13 hb; replace BK105 := kb BK105 hb; replace BK106 := kb BK106 hb; replace HB := bz HB hb; clear hb))
    go_ret
    exact ⟨er, bb⟩
   ·
    obtain rfl := s1 H
    go_enter Tryz.func21, Tryz.ntmps21
    go_wp2_with (first | (refine bX HB 2 #[.slice A0_0 l0_0.length c0_0, .slice A0_1 l0_1.length c0_1, .slice A0_2 l0_2.length c0_2] 28 ?_; intro gb105 w14 BK105 GW105 hb; replace HB := bs HB hb; clear hb) | (refine bY HB 3 #[.slice A1_0 l1_0.length c1_0, .slice A1_1 l1_1.length c1_1, .slice A1_2 l1_2.length c1_2] 28 ?_; intro gb106 w15 BK106 GW106 hg hb; have NB105_106 := nl_ BK105 hg; have NB106_105 := ng_ BK105 hg; replace BK105 := kb BK105 hb; replace HB := bz HB hb; clear hb hg; have hnb16 := NB105_106.out; have hnc16 := NB106_105.out; have z17 := cz3 BK105.out; have z18 := cz3 BK106.out) | (refine gA Tryz.func62 (impl_Field_62.calls (cu (Kd.C_below HR0_0.out HB.out)) HC0_0.out (cu (Kd.C_below HR1_0.out HB.out)) HC1_0.out A3.out) ?_; intro nd) | (go_at_call 63; refine mA (slices_Equal_string_string.calls (cu (Kd.C_below HR0_1.out bb)) HC0_1.out (cu (Kd.C_below HR1_1.out bb)) HC1_1.out A5.out) ?_; intro nd))
    go_ret
    exact ⟨er, bb⟩
  ·
   obtain rfl := s1 H
   go_enter Tryz.func21, Tryz.ntmps21
   go_wp2_with (first | (refine bX HB 2 #[.slice A0_0 l0_0.length c0_0, .slice A0_1 l0_1.length c0_1, .slice A0_2 l0_2.length c0_2] 28 ?_; intro gb105 w19 BK105 GW105 hb; replace HB := bs HB hb; clear hb) | (refine bY HB 3 #[.slice A1_0 l1_0.length c1_0, .slice A1_1 l1_1.length c1_1, .slice A1_2 l1_2.length c1_2] 28 ?_; intro gb106 w20 BK106 GW106 hg hb; have NB105_106 := nl_ BK105 hg; have NB106_105 := ng_ BK105 hg; replace BK105 := kb BK105 hb; replace HB := bz HB hb; clear hb hg; have hnb21 := NB105_106.out; have hnc21 := NB106_105.out; have z22 := cz3 BK105.out; have z23 := cz3 BK106.out) | (refine gA Tryz.func62 (impl_Field_62.calls (cu (Kd.C_below HR0_0.out HB.out)) HC0_0.out (cu (Kd.C_below HR1_0.out HB.out)) HC1_0.out A3.out) ?_; intro nd))
   go_ret
   exact ⟨er, bb⟩
 ·
  intro A0 c0 l0 A1 c1 l1 r w hr0 hc0 hr1 hc1 h
  have hu28 := Tryz.underlying28
  have HR0 := ak hr0
  have HC0 := ak hc0
  clear hr0 hc0
  have HR1 := ak hr1
  have HC1 := ak hc1
  clear hr1 hc1
  have HB := ak (Below.refl w.heap.size w)
  have H : (if (l0.length : Int) = (l1.length : Int) then (impl_Part_PartSame.l0 k l1 l0 (l0.length : Int) 0) else (some false)) = some r := h
  clear h
  replace H := sp H
  rcases H with ⟨c4, H⟩ | ⟨c4, H⟩
  ·
   have c4b0 := beq_iff_eq.mpr c4
   have c4b1 := bne_eq_false_iff_eq.mpr c4
   have c4b2 : (l0.length == l1.length) = true := by first | simpa using c4 | (simp at c4 ⊢; omega)
   clear c4
   have H' := ak H; clear H
   go_enter Tryz.func64, Tryz.ntmps64
   go_wp2
   go_loopg [17] k (fun kq v17 w' => ∃ (x17_1 : Int), v17 = .int .i64 x17_1 ∧ Aside0 (impl_Part_PartSame.l0 kq l1 l0 (l0.length : Int) x17_1 = some r) ∧ Aside0 (kq ≤ k) ∧ Aside0 (Below w.heap.size w w'))
   case atStart => exact ⟨_, rs, H', ⟨Nat.le_refl _⟩, ⟨ul HB.out⟩⟩
   case round =>
    clear H'
    try clear c1
    try clear c4
    try clear c4b0
    try clear c4b1
    try clear c4b2
    obtain ⟨x17_1, rfl, HA, HK1, HB⟩ := hrel
    cases gk with
    | zero => exact zz HA.out
    | succ k1 =>
     obtain ⟨H⟩ := HA
     simp only [impl_Part_PartSame.l0] at H
     replace H := sd H
     rcases H with ⟨c5b0, H⟩ | ⟨c5b0, H⟩
     ·
      replace H := nde H; obtain ⟨c6b0, H⟩ := H; replace H := nde H; obtain ⟨c7b0, H⟩ := H; replace H := nde H; obtain ⟨c8b0, H⟩ := H; replace H := bd H; obtain ⟨t808, A9, H⟩ := H; replace H := sb H
      rcases H with ⟨rfl, H⟩ | ⟨rfl, H⟩
      ·
       have H' := ak H; clear H
       have p804 := zi x17_1
       have q804 := zj x17_1 l0.length
       obtain ⟨ad804, A804_0, c804_0, A804_1, c804_1, A804_2, c804_2, e804, hx804_0, hx804_1, hx804_2, hl804_0, hi804_0, hl804_1, hi804_1, hl804_2, hi804_2⟩ := at_T28 HR0.out x17_1 p804 q804
       cases e804
       replace hx804_0 := cl HB.out hx804_0
       replace hx804_1 := cl HB.out hx804_1
       replace hx804_2 := cl HB.out hx804_2
       have HR804_0 := ak hi804_0
       have HC804_0 := ak hl804_0
       clear hi804_0 hl804_0
       have HR804_1 := ak hi804_1
       have HC804_1 := ak hl804_1
       clear hi804_1 hl804_1
       have HR804_2 := ak hi804_2
       have HC804_2 := ak hl804_2
       clear hi804_2 hl804_2
       replace p804 := eq_true p804
       replace q804 := eq_true q804
       go_wp2_with (first | (refine bX HB 8 #[.slice none 0 0, .slice none 0 0, .slice none 0 0] 28 ?_; intro gb805 w11 BK805 GW805 hb; replace HB := bs HB hb; clear hb; have z12 := cz3 BK805.out; have p806 : 0 ≤ (x17_1 : Int) := of_decide_eq_true (by assumption); have q806 : x17_1 < (l1.length : Int) := of_decide_eq_true (by assumption); obtain ⟨ad806, A806_0, c806_0, A806_1, c806_1, A806_2, c806_2, e806, hx806_0, hx806_1, hx806_2, hl806_0, hi806_0, hl806_1, hi806_1, hl806_2, hi806_2⟩ := at_T28 HR1.out x17_1 p806 q806; cases e806; have hn806_0 : ad806.block ≠ gb805 := Nat.ne_of_lt (Nat.lt_of_lt_of_le (by have := World.block_lt_of_cell? _ _ hx806_0; first | rwa [add_block] at this | exact this) GW805.out); have hn806_1 : ad806.block ≠ gb805 := Nat.ne_of_lt (Nat.lt_of_lt_of_le (by have := World.block_lt_of_cell? _ _ hx806_0; first | rwa [add_block] at this | exact this) GW805.out); have hn806_2 : ad806.block ≠ gb805 := Nat.ne_of_lt (Nat.lt_of_lt_of_le (by have := World.block_lt_of_cell? _ _ hx806_0; first | rwa [add_block] at this | exact this) GW805.out); replace hx806_0 := (HB.out.cell (World.block_lt_of_cell? w _ hx806_0)).trans hx806_0; replace hx806_1 := (HB.out.cell (World.block_lt_of_cell? w _ hx806_1)).trans hx806_1; replace hx806_2 := (HB.out.cell (World.block_lt_of_cell? w _ hx806_2)).trans hx806_2; have HR806_0 := ak hi806_0; have HC806_0 := ak hl806_0; clear hi806_0 hl806_0; have HR806_1 := ak hi806_1; have HC806_1 := ak hl806_1; clear hi806_1 hl806_1; have HR806_2 := ak hi806_2; have HC806_2 := ak hl806_2; clear hi806_2 hl806_2; replace hx806_0 := (cell_far (p := ⟨gb805, 0, none⟩) (by first | (rw [add_block]; exact hn806_0) | (show (Addr.add _ _).block ≠ _; rw [add_block]; exact hn806_0) | exact hn806_0) (.slice A804_0 ((rd_T28 l0 x17_1).f0).length c804_0)).trans hx806_0; replace hx806_1 := (cell_far (p := ⟨gb805, 0, none⟩) (by first | (rw [add_block]; exact hn806_0) | (show (Addr.add _ _).block ≠ _; rw [add_block]; exact hn806_0) | exact hn806_0) (.slice A804_0 ((rd_T28 l0 x17_1).f0).length c804_0)).trans hx806_1; replace hx806_2 := (cell_far (p := ⟨gb805, 0, none⟩) (by first | (rw [add_block]; exact hn806_0) | (show (Addr.add _ _).block ≠ _; rw [add_block]; exact hn806_0) | exact hn806_0) (.slice A804_0 ((rd_T28 l0 x17_1).f0).length c804_0)).trans hx806_2; replace hx806_0 := (cell_far (p := ⟨gb805, 1, none⟩) (by first | (rw [add_block]; exact hn806_1) | (show (Addr.add _ _).block ≠ _; rw [add_block]; exact hn806_1) | exact hn806_1) (.slice A804_1 ((rd_T28 l0 x17_1).f1).length c804_1)).trans hx806_0; replace hx806_1 := (cell_far (p := ⟨gb805, 1, none⟩) (by first | (rw [add_block]; exact hn806_1) | (show (Addr.add _ _).block ≠ _; rw [add_block]; exact hn806_1) | exact hn806_1) (.slice A804_1 ((rd_T28 l0 x17_1).f1).length c804_1)).trans hx806_1; replace hx806_2 := (cell_far (p := ⟨gb805, 1, none⟩) (by first | (rw [add_block]; exact hn806_1) | (show (Addr.add _ _).block ≠ _; rw [add_block]; exact hn806_1) | exact hn806_1) (.slice A804_1 ((rd_T28 l0 x17_1).f1).length c804_1)).trans hx806_2; replace hx806_0 := (cell_far (p := ⟨gb805, 2, none⟩) (by first | (rw [add_block]; exact hn806_2) | (show (Addr.add _ _).block ≠ _; rw [add_block]; exact hn806_2) | exact hn806_2) (.slice A804_2 ((rd_T28 l0 x17_1).f2).length c804_2)).trans hx806_0; replace hx806_1 := (cell_far (p := ⟨gb805, 2, none⟩) (by first | (rw [add_block]; exact hn806_2) | (show (Addr.add _ _).block ≠ _; rw [add_block]; exact hn806_2) | exact hn806_2) (.slice A804_2 ((rd_T28 l0 x17_1).f2).length c804_2)).trans hx806_1; replace hx806_2 := (cell_far (p := ⟨gb805, 2, none⟩) (by first | (rw [add_block]; exact hn806_2) | (show (Addr.add _ _).block ≠ _; rw [add_block]; exact hn806_2) | exact hn806_2) (.slice A804_2 ((rd_T28 l0 x17_1).f2).length c804_2)).trans hx806_2; clear hn806_0; clear hn806_1; clear hn806_2; replace p806 := eq_true p806; replace q806 := eq_true q806) | (refine bY HB 9 #[.slice none 0 0, .slice none 0 0, .slice none 0 0] 28 ?_; intro gb807 w13 BK807 GW807 hg hb; have NB805_807 := ak ((by rw [hg]; exact Nat.ne_of_lt (blk_lt (g := gb805) (o := .cells #[.slice A804_0 ((rd_T28 l0 x17_1).f0).length c804_0, .slice A804_1 ((rd_T28 l0 x17_1).f1).length c804_1, .slice A804_2 ((rd_T28 l0 x17_1).f2).length c804_2] 28 (0, 0)) bq) : gb805 ≠ gb807)); have NB807_805 := ak ((by rw [hg]; exact Nat.ne_of_gt (blk_lt (g := gb805) (o := .cells #[.slice A804_0 ((rd_T28 l0 x17_1).f0).length c804_0, .slice A804_1 ((rd_T28 l0 x17_1).f1).length c804_1, .slice A804_2 ((rd_T28 l0 x17_1).f2).length c804_2] 28 (0, 0)) bq) : gb807 ≠ gb805)); replace BK805 := kp BK805 #[.slice A804_0 ((rd_T28 l0 x17_1).f0).length c804_0, .slice A804_1 ((rd_T28 l0 x17_1).f1).length c804_1, .slice A804_2 ((rd_T28 l0 x17_1).f2).length c804_2] hb; replace HB := bz HB hb; clear hb hg; have hnb14 := NB807_805.out; have hnc14 := NB805_807.out; have z15 := cz3 BK807.out; have z16 := cz3 BK805.out) | (go_at_call 21; refine mB ((ih k1 (by have := HK1.out; omega)).1 _ _ ((rd_T28 l0 x17_1).f0) _ _ ((rd_T28 l0 x17_1).f1) _ _ ((rd_T28 l0 x17_1).f2) _ _ ((rd_T28 l1 x17_1).f0) _ _ ((rd_T28 l1 x17_1).f1) _ _ ((rd_T28 l1 x17_1).f2) true _ (Kd.C_below HR804_0.out bb) HC804_0.out (Kd.C_below HR804_1.out bb) HC804_1.out (Kd.C_below HR804_2.out bb) HC804_2.out (Kd.C_below HR806_0.out bb) HC806_0.out (Kd.C_below HR806_1.out bb) HC806_1.out (Kd.C_below HR806_2.out bb) HC806_2.out A9.out) ?_; intro w17 hb; replace BK805 := kp BK805 #[.slice A804_0 ((rd_T28 l0 x17_1).f0).length c804_0, .slice A804_1 ((rd_T28 l0 x17_1).f1).length c804_1, .slice A804_2 ((rd_T28 l0 x17_1).f2).length c804_2] hb; replace BK807 := kp BK807 #[.slice A806_0 ((rd_T28 l1 x17_1).f0).length c806_0, .slice A806_1 ((rd_T28 l1 x17_1).f1).length c806_1, .slice A806_2 ((rd_T28 l1 x17_1).f2).length c806_2] hb; replace HB := bz HB hb; clear hb))
       go_roundg k1
       case measure => exact kl
       case rel => exact ⟨_, rs, H', ⟨kl⟩, ⟨bb⟩⟩
      ·
       obtain rfl := s1 H
       have p804 := zi x17_1
       have q804 := zj x17_1 l0.length
       obtain ⟨ad804, A804_0, c804_0, A804_1, c804_1, A804_2, c804_2, e804, hx804_0, hx804_1, hx804_2, hl804_0, hi804_0, hl804_1, hi804_1, hl804_2, hi804_2⟩ := at_T28 HR0.out x17_1 p804 q804
       cases e804
       replace hx804_0 := cl HB.out hx804_0
       replace hx804_1 := cl HB.out hx804_1
       replace hx804_2 := cl HB.out hx804_2
       have HR804_0 := ak hi804_0
       have HC804_0 := ak hl804_0
       clear hi804_0 hl804_0
       have HR804_1 := ak hi804_1
       have HC804_1 := ak hl804_1
       clear hi804_1 hl804_1
       have HR804_2 := ak hi804_2
       have HC804_2 := ak hl804_2
       clear hi804_2 hl804_2
       replace p804 := eq_true p804
       replace q804 := eq_true q804
       go_wp2_with (first | (refine bX HB 8 #[.slice none 0 0, .slice none 0 0, .slice none 0 0] 28 ?_; intro gb805 w18 BK805 GW805 hb; replace HB := bs HB hb; clear hb; have z19 := cz3 BK805.out; have p806 : 0 ≤ (x17_1 : Int) := of_decide_eq_true (by assumption); have q806 : x17_1 < (l1.length : Int) := of_decide_eq_true (by assumption); obtain ⟨ad806, A806_0, c806_0, A806_1, c806_1, A806_2, c806_2, e806, hx806_0, hx806_1, hx806_2, hl806_0, hi806_0, hl806_1, hi806_1, hl806_2, hi806_2⟩ := at_T28 HR1.out x17_1 p806 q806; cases e806; have hn806_0 : ad806.block ≠ gb805 := Nat.ne_of_lt (Nat.lt_of_lt_of_le (by have := World.block_lt_of_cell? _ _ hx806_0; first | rwa [add_block] at this | exact this) GW805.out); have hn806_1 : ad806.block ≠ gb805 := Nat.ne_of_lt (Nat.lt_of_lt_of_le (by have := World.block_lt_of_cell? _ _ hx806_0; first | rwa [add_block] at this | exact this) GW805.out); have hn806_2 : ad806.block ≠ gb805 := Nat.ne_of_lt (Nat.lt_of_lt_of_le (by have := World.block_lt_of_cell? _ _ hx806_0; first | rwa [add_block] at this | exact this) GW805.out); replace hx806_0 := (HB.out.cell (World.block_lt_of_cell? w _ hx806_0)).trans hx806_0; replace hx806_1 := (HB.out.cell (World.block_lt_of_cell? w _ hx806_1)).trans hx806_1; replace hx806_2 := (HB.out.cell (World.block_lt_of_cell? w _ hx806_2)).trans hx806_2; have HR806_0 := ak hi806_0; have HC806_0 := ak hl806_0; clear hi806_0 hl806_0; have HR806_1 := ak hi806_1; have HC806_1 := ak hl806_1; clear hi806_1 hl806_1; have HR806_2 := ak hi806_2; have HC806_2 := ak hl806_2; clear hi806_2 hl806_2; replace hx806_0 := (cell_far (p := ⟨gb805, 0, none⟩) (by first | (rw [add_block]; exact hn806_0) | (show (Addr.add _ _).block ≠ _; rw [add_block]; exact hn806_0) | exact hn806_0) (.slice A804_0 ((rd_T28 l0 x17_1).f0).length c804_0)).trans hx806_0; replace hx806_1 := (cell_far (p := ⟨gb805, 0, none⟩) (by first | (rw [add_block]; exact hn806_0) | (show (Addr.add _ _).block ≠ _; rw [add_block]; exact hn806_0) | exact hn806_0) (.slice A804_0 ((rd_T28 l0 x17_1).f0).length c804_0)).trans hx806_1; replace hx806_2 := (cell_far (p := ⟨gb805, 0, none⟩) (by first | (rw [add_block]; exact hn806_0) | (show (Addr.add _ _).block ≠ _; rw [add_block]; exact hn806_0) | exact hn806_0) (.slice A804_0 ((rd_T28 l0 x17_1).f0).length c804_0)).trans hx806_2; replace hx806_0 := (cell_far (p := ⟨gb805, 1, none⟩) (by first | (rw [add_block]; exact hn806_1) | (show (Addr.add _ _).block ≠ _; rw [add_block]; exact hn806_1) | exact hn806_1) (.slice A804_1 ((rd_T28 l0 x17_1).f1).length c804_1)).trans hx806_0; replace hx806_1 := (cell_far (p := ⟨gb805, 1, none⟩) (by first | (rw [add_block]; exact hn806_1) | (show (Addr.add _ _).block ≠ _; rw [add_block]; exact hn806_1) | exact hn806_1) (.slice A804_1 ((rd_T28 l0 x17_1).f1).length c804_1)).trans hx806_1; replace hx806_2 := (cell_far (p := ⟨gb805, 1, none⟩) (by first | (rw [add_block]; exact hn806_1) | (show (Addr.add _ _).block ≠ _; rw [add_block]; exact hn806_1) | exact hn806_1) (.slice A804_1 ((rd_T28 l0 x17_1).f1).length c804_1)).trans hx806_2; replace hx806_0 := (cell_far (p := ⟨gb805, 2, none⟩) (by first | (rw [add_block]; exact hn806_2) | (show (Addr.add _ _).block ≠ _; rw [add_block]; exact hn806_2) | exact hn806_2) (.slice A804_2 ((rd_T28 l0 x17_1).f2).length c804_2)).trans hx806_0; replace hx806_1 := (cell_far (p := ⟨gb805, 2, none⟩) (by first | (rw [add_block]; exact hn806_2) | (show (Addr.add _ _).block ≠ _; rw [add_block]; exact hn806_2) | exact hn806_2) (.slice A804_2 ((rd_T28 l0 x17_1).f2).length c804_2)).trans hx806_1; replace hx806_2 := (cell_far (p := ⟨gb805, 2, none⟩) (by first | (rw [add_block]; exact hn806_2) | (show (Addr.add _ _).block ≠ _; rw [add_block]; exact hn806_2) | exact hn806_2) (.slice A804_2 ((rd_T28 l0 x17_1).f2).length c804_2)).trans hx806_2; clear hn806_0; clear hn806_1; clear hn806_2; replace p806 := eq_true p806; replace q806 := eq_true q806) | (refine bY HB 9 #[.slice none 0 0, .slice none 0 0, .slice none 0 0] 28 ?_; intro gb807 w20 BK807 GW807 hg hb; have NB805_807 := ak ((by rw [hg]; exact Nat.ne_of_lt (blk_lt (g := gb805) (o := .cells #[.slice A804_0 ((rd_T28 l0 x17_1).f0).length c804_0, .slice A804_1 ((rd_T28 l0 x17_1).f1).length c804_1, .slice A804_2 ((rd_T28 l0 x17_1).f2).length c804_2] 28 (0, 0)) bq) : gb805 ≠ gb807)); have NB807_805 := ak ((by rw [hg]; exact Nat.ne_of_gt (blk_lt (g := gb805) (o := .cells #[.slice A804_0 ((rd_T28 l0 x17_1).f0).length c804_0, .slice A804_1 ((rd_T28 l0 x17_1).f1).length c804_1, .slice A804_2 ((rd_T28 l0 x17_1).f2).length c804_2] 28 (0, 0)) bq) : gb807 ≠ gb805)); replace BK805 := kp BK805 #[.slice A804_0 ((rd_T28 l0 x17_1).f0).length c804_0, .slice A804_1 ((rd_T28 l0 x17_1).f1).length c804_1, .slice A804_2 ((rd_T28 l0 x17_1).f2).length c804_2] hb; replace HB := bz HB hb; clear hb hg; have hnb21 := NB807_805.out; have hnc21 := NB805_807.out; have z22 := cz3 BK807.out; have z23 := cz3 BK805.out) | (go_at_call 21; refine mB ((ih k1 (by have := HK1.out; omega)).1 _ _ ((rd_T28 l0 x17_1).f0) _ _ ((rd_T28 l0 x17_1).f1) _ _ ((rd_T28 l0 x17_1).f2) _ _ ((rd_T28 l1 x17_1).f0) _ _ ((rd_T28 l1 x17_1).f1) _ _ ((rd_T28 l1 x17_1).f2) false _ (Kd.C_below HR804_0.out bb) HC804_0.out (Kd.C_below HR804_1.out bb) HC804_1.out (Kd.C_below HR804_2.out bb) HC804_2.out (Kd.C_below HR806_0.out bb) HC806_0.out (Kd.C_below HR806_1.out bb) HC806_1.out (Kd.C_below HR806_2.out bb) HC806_2.out A9.out) ?_; intro w24 hb; replace BK805 := kp BK805 #[.slice A804_0 ((rd_T28 l0 x17_1).f0).length c804_0, .slice A804_1 ((rd_T28 l0 x17_1).f1).length c804_1, .slice A804_2 ((rd_T28 l0 x17_1).f2).length c804_2] hb; replace BK807 := kp BK807 #[.slice A806_0 ((rd_T28 l1 x17_1).f0).length c806_0, .slice A806_1 ((rd_T28 l1 x17_1).f1).length c806_1, .slice A806_2 ((rd_T28 l1 x17_1).f2).length c806_2] hb; replace HB := bz HB hb; clear hb))
       go_ret
       exact ⟨er, bb⟩
     ·
      obtain rfl := s1 H
      go_wp2
      go_ret
      exact ⟨er, ul HB.out⟩
  ·
   have c4b0 := beq_eq_false_iff_ne.mpr c4
   have c4b1 := bne_iff_ne.mpr c4
   have c4b2 : (l0.length == l1.length) = false := by first | simpa using c4 | (simp at c4 ⊢; omega)
   obtain rfl := s1 H
   go_enter Tryz.func64, Tryz.ntmps64
   go_wp2
   go_ret
   exact ⟨er, ul HB.out⟩
theorem impl_PartSame.calls {k c0_0 c0_1 c0_2 c1_0 c1_1 c1_2 : Nat} {A0_0 A0_1 A0_2 A1_0 A1_1 A1_2 : Option Addr} {l0_0 l1_0 : List (S69)} {l0_1 l1_1 : List ByteArray} {l0_2 l1_2 : List (S28)} {r : Bool} {w : World} (hr0_0 : Kd.C k69 w A0_0 l0_0.length l0_0) (hc0_0 : l0_0.length ≤ c0_0) (hr0_1 : Kd.C Kd.string w A0_1 l0_1.length l0_1) (hc0_1 : l0_1.length ≤ c0_1) (hr0_2 : Kd.C k28 w A0_2 l0_2.length l0_2) (hc0_2 : l0_2.length ≤ c0_2) (hr1_0 : Kd.C k69 w A1_0 l1_0.length l1_0) (hc1_0 : l1_0.length ≤ c1_0) (hr1_1 : Kd.C Kd.string w A1_1 l1_1.length l1_1) (hc1_1 : l1_1.length ≤ c1_1) (hr1_2 : Kd.C k28 w A1_2 l1_2.length l1_2) (hc1_2 : l1_2.length ≤ c1_2) (h : impl_PartSame.f k l0_0 l0_1 l0_2 l1_0 l1_1 l1_2 = some r) :
  Calls Tryz.prog 21 #[.agg #[.slice A0_0 l0_0.length c0_0, .slice A0_1 l0_1.length c0_1, .slice A0_2 l0_2.length c0_2], .agg #[.slice A1_0 l1_0.length c1_0, .slice A1_1 l1_1.length c1_1, .slice A1_2 l1_2.length c1_2]] w fun e w' => e = .returned (.bool r) ∧ Below w.heap.size w w' := (impl_PartSame.pair k).1 A0_0 c0_0 l0_0 A0_1 c0_1 l0_1 A0_2 c0_2 l0_2 A1_0 c1_0 l1_0 A1_1 c1_1 l1_1 A1_2 c1_2 l1_2 r w hr0_0 hc0_0 hr0_1 hc0_1 hr0_2 hc0_2 hr1_0 hc1_0 hr1_1 hc1_1 hr1_2 hc1_2 h
theorem impl_Part_PartSame.calls {k c0 c1 : Nat} {A0 A1 : Option Addr} {l0 l1 : List (S28)} {r : Bool} {w : World} (hr0 : Kd.C k28 w A0 l0.length l0) (hc0 : l0.length ≤ c0) (hr1 : Kd.C k28 w A1 l1.length l1) (hc1 : l1.length ≤ c1) (h : impl_Part_PartSame.f k l0 l1 = some r) :
  Calls Tryz.prog 64 #[.slice A0 l0.length c0, .slice A1 l1.length c1, .func (.func 21) #[] #[]] w fun e w' => e = .returned (.bool r) ∧ Below w.heap.size w w' := (impl_PartSame.pair k).2 A0 c0 l0 A1 c1 l1 r w hr0 hc0 hr1 hc1 h
end Go.Proofs.YtncdadcmghglkaaGreatDoor.PFnPartSame
