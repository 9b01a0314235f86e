/- Printed walks; conditions: those in each statement. -/
import Derived.Test.YtncdadcmghglkaaGreatDoorVFnExactCountPartsQt
import Derived.Test.YtncdadcmghglkaaGreatDoorVFnExactCountPartsYt
import Derived.Test.YtncdadcmghglkaaGreatDoorPFnExactCountPartsx0
import Derived.Test.YtncdadcmghglkaaGreatDoorPFnExactCountPartsx20
-- short
-- dense
-- sq
namespace Go.Proofs.YtncdadcmghglkaaGreatDoor.PFnExactCountParts
open Go.RowKit Go.Proofs.YtncdadcmghglkaaGreatDoor.X Go.Proofs.YtncdadcmghglkaaGreatDoorW.PrintWords Go.Proofs.YtncdadcmghglkaaGreatDoorW.PrintLast Go.Proofs.YtncdadcmghglkaaGreatDoorW.PrintMore
attribute [local go_sem] max2_int min2_int max_two min_two max_three min_three max_four min_four   -- for this text's walks alone
set_option linter.unusedVariables false
set_option linter.unusedSimpArgs false
mutual
def impl_Part_leaves.l0 : Nat → Int → List (S28) → Int → Int → Option (Int)
 | 0, _, _, _, _ => none
 | k + 1, x3, x11, x12, x13 => if x13 < x12 then (if 0 ≤ x13 then (if x13 < (x11.length : Int) then ((impl_Part_leaves.f k ((rd_T28 x11 x13).f0) ((rd_T28 x11 x13).f1) ((rd_T28 x11 x13).f2)).bind fun t636 => (impl_Part_leaves.l0 k (wrap64 (x3 + t636)) x11 x12 (wrap64 (x13 + 1)))) else (none)) else (none)) else (some x3)
def impl_Part_leaves.f : Nat → List (S69) → List ByteArray → List (S28) → Option (Int)
 | 0, _, _, _ => none
 | k + 1, l0_0, l0_1, l0_2 => if (l0_2.length : Int) = 0 then (some 1) else (impl_Part_leaves.l0 k 0 l0_2 (l0_2.length : Int) 0)
end
set_option maxHeartbeats 8000000 in
set_option maxRecDepth 100000 in
theorem impl_Part_leaves.calls (k : Nat) : ∀ (A0_0 : Option Addr) (c0_0 : Nat) (l0_0 : List (S69)) (A0_1 : Option Addr) (c0_1 : Nat) (l0_1 : List ByteArray) (A0_2 : Option Addr) (c0_2 : Nat) (l0_2 : List (S28)) (r : Int) (w : World) (hr0_0 : Kd.C k69 w A0_0 l0_0.length l0_0) (hc0_0 : l0_0.length ≤ c0_0) (hr0_1 : Kd.C Kd.string w A0_1 l0_1.length l0_1) (hc0_1 : l0_1.length ≤ c0_1) (hr0_2 : Kd.C k28 w A0_2 l0_2.length l0_2) (hc0_2 : l0_2.length ≤ c0_2) (h : impl_Part_leaves.f k l0_0 l0_1 l0_2 = some r),
  Calls Tryz.prog 78 #[.agg #[.slice A0_0 l0_0.length c0_0, .slice A0_1 l0_1.length c0_1, .slice A0_2 l0_2.length c0_2]] w fun e w' => e = .returned (.int .i64 r) ∧ Below w.heap.size w w' := by
 induction k using Nat.strongRecOn with
 | _ k ih =>
 intro A0_0 c0_0 l0_0 A0_1 c0_1 l0_1 A0_2 c0_2 l0_2 r w hr0_0 hc0_0 hr0_1 hc0_1 hr0_2 hc0_2 h
 cases k with
 | zero => exact absurd h (by simp [impl_Part_leaves.f])
 | succ k =>
 simp only [impl_Part_leaves.f] at h
 have hu28 := Tryz.underlying28
 have HR0_0 := ak hr0_0
 have HC0_0 := ak hc0_0
 clear hr0_0 hc0_0
 have HR0_1 := ak hr0_1
 have HC0_1 := ak hc0_1
 clear hr0_1 hc0_1
 have HR0_2 := ak hr0_2
 have HC0_2 := ak hc0_2
 clear hr0_2 hc0_2
 have HB := ak (Below.refl w.heap.size w)
 have H : (if (l0_2.length : Int) = 0 then (some 1) else (impl_Part_leaves.l0 k 0 l0_2 (l0_2.length : Int) 0)) = some r := h
 clear h
 replace H := sp H
 rcases H with ⟨c2, H⟩ | ⟨c2, H⟩
 ·
  have c2b0 := beq_iff_eq.mpr c2
  have c2b1 := bne_eq_false_iff_eq.mpr c2
  clear c2
  obtain rfl := Option.some.inj H
  go_enter Tryz.func78, Tryz.ntmps78
  go_wp2_with (first | (refine bE 1 #[.slice A0_0 l0_0.length c0_0, .slice A0_1 l0_1.length c0_1, .slice A0_2 l0_2.length c0_2] 28 ?_; intro gb633 hg w3 hbox hb; have BK633 := ak (hbox); have GW633 := ge_ HB hg; have GE633 := ge_ HB hg; replace HB := bs HB hb; clear hb hbox hg; obtain ⟨hcz4_0, hcz4_1, hcz4_2, hfz4_0, hfz4_1, hfz4_2⟩ := cz3 BK633.out))
  go_ret
  exact ⟨er, bb⟩
 ·
  have c2b0 := beq_eq_false_iff_ne.mpr c2
  have c2b1 := bne_iff_ne.mpr c2
  have c2b2 : ¬ (l0_2 = []) := fun h_ => c2 (by rw [h_]; rfl)
  have H' := ak H; clear H
  go_enter Tryz.func78, Tryz.ntmps78
  go_wp2_with (first | (refine bE 1 #[.slice A0_0 l0_0.length c0_0, .slice A0_1 l0_1.length c0_1, .slice A0_2 l0_2.length c0_2] 28 ?_; intro gb633 hg w5 hbox hb; have BK633 := ak (hbox); have GW633 := ge_ HB hg; have GE633 := ge_ HB hg; replace HB := bs HB hb; clear hb hbox hg; obtain ⟨hcz6_0, hcz6_1, hcz6_2, hfz6_0, hfz6_1, hfz6_2⟩ := cz3 BK633.out))
  go_loopg [3, 13] k (fun kq v3 v13 w' => ∃ (x3_1 : Int) (x13_1 : Int), v3 = .int .i64 x3_1 ∧ v13 = .int .i64 x13_1 ∧ Aside0 (impl_Part_leaves.l0 kq x3_1 l0_2 (l0_2.length : Int) x13_1 = some r) ∧ Aside0 (kq ≤ k) ∧ Aside0 (w'.heap[gb633]? = some (.cells #[(.slice A0_0 l0_0.length c0_0), (.slice A0_1 l0_1.length c0_1), (.slice A0_2 l0_2.length c0_2)] 28 (0, 0))) ∧ Aside0 (Below w.heap.size w w'))
  case atStart => exact ⟨(0), (0), rs, rs, H', ⟨Nat.le_refl _⟩, ⟨ub BK633.out⟩, ⟨bb⟩⟩
  case round =>
   clear H'
   try clear c2
   try clear c2b0
   try clear c2b1
   try clear c2b2
   try clear p2
   try clear hcz4_0
   try clear hcz4_1
   try clear hcz4_2
   try clear hcz6_0
   try clear hcz6_1
   try clear hcz6_2
   try clear hfz4_0
   try clear hfz4_1
   try clear hfz4_2
   try clear hfz6_0
   try clear hfz6_1
   try clear hfz6_2
   obtain ⟨x3_1, x13_1, rfl, rfl, HA, HK1, BK633, HB⟩ := hrel
   cases gk with
   | zero => exact absurd HA.out (by simp [impl_Part_leaves.l0])
   | succ k1 =>
    have H := HA.out
    clear HA
    simp only [impl_Part_leaves.l0] at H
    replace H := sd H
    rcases H with ⟨c7b0, H⟩ | ⟨c7b0, H⟩
    ·
     replace H := nde H; obtain ⟨c8b0, H⟩ := H; replace H := nde H; obtain ⟨c9b0, H⟩ := H; replace H := bd H; obtain ⟨t636, A10, H⟩ := H
     have H' := ak H; clear H
     have p634 := zi x13_1
     have q634 := zj x13_1 l0_2.length
     obtain ⟨ad634, A634_0, c634_0, A634_1, c634_1, A634_2, c634_2, e634, hx634_0, hx634_1, hx634_2, hl634_0, hi634_0, hl634_1, hi634_1, hl634_2, hi634_2⟩ := at_T28 HR0_2.out x13_1 p634 q634
     cases e634
     replace hx634_0 := cl HB.out hx634_0
     replace hx634_1 := cl HB.out hx634_1
     replace hx634_2 := cl HB.out hx634_2
     have HR634_0 := ak hi634_0
     have HC634_0 := ak hl634_0
     clear hi634_0 hl634_0
     have HR634_1 := ak hi634_1
     have HC634_1 := ak hl634_1
     clear hi634_1 hl634_1
     have HR634_2 := ak hi634_2
     have HC634_2 := ak hl634_2
     clear hi634_2 hl634_2
     replace p634 := eq_true p634
     replace q634 := eq_true q634
     go_wp2_with (first | (refine bE 5 #[.slice none 0 0, .slice none 0 0, .slice none 0 0] 28 ?_; intro gb635 hg w11 hbox hb; have BK635 := ak (hbox); have GW635 := ak ((by rw [hg]; exact (below_size bb) : w.heap.size ≤ gb635)); have GE635 := ak ((by rw [hg]; exact (below_size bb) : w.heap.size ≤ gb635)); have NB633_635 := ak ((by rw [hg]; exact Nat.ne_of_lt (blk_lt (ub BK633.out)) : gb633 ≠ gb635)); have NB635_633 := ak ((by rw [hg]; exact Nat.ne_of_gt (blk_lt (ub BK633.out)) : gb635 ≠ gb633)); replace BK633 := kb BK633 hb; replace HB := ak (below_step bb hb); clear hb hbox hg; have hnb12 := NB635_633.out; have hnc12 := NB633_635.out; obtain ⟨hcz13_0, hcz13_1, hcz13_2, hfz13_0, hfz13_1, hfz13_2⟩ := cz3 BK635.out) | (refine gL 78 19 Tryz.func78 #[.agg #[.slice A634_0 ((rd_T28 l0_2 x13_1).f0).length c634_0, .slice A634_1 ((rd_T28 l0_2 x13_1).f1).length c634_1, .slice A634_2 ((rd_T28 l0_2 x13_1).f2).length c634_2]] ?_; (with_reducible refine (ih k1 (by have := HK1.out; omega) _ _ ((rd_T28 l0_2 x13_1).f0) _ _ ((rd_T28 l0_2 x13_1).f1) _ _ ((rd_T28 l0_2 x13_1).f2) t636 _ (Kd.C_below HR634_0.out bb) HC634_0.out (Kd.C_below HR634_1.out bb) HC634_1.out (Kd.C_below HR634_2.out bb) HC634_2.out A10.out).mono ?_); rintro e w14 ⟨rfl, hb⟩; refine ⟨_, rfl, ?_⟩; replace BK633 := ak (blk_below (g := gb633) (o := .cells #[.slice A0_0 l0_0.length c0_0, .slice A0_1 l0_1.length c0_1, .slice (some ad634) l0_2.length c0_2] 28 (0, 0)) (by (with_reducible repeat (first | refine blk_drewN ?_ _ | refine blk_drew ?_ | refine blk_alloc ?_ _)); refine blk_far ?_ NB633_635.out _; (with_reducible repeat (first | refine blk_drewN ?_ _ | refine blk_drew ?_ | refine blk_alloc ?_ _)); refine blk_far ?_ NB633_635.out _; (with_reducible repeat (first | refine blk_drewN ?_ _ | refine blk_drew ?_ | refine blk_alloc ?_ _)); refine blk_far ?_ NB633_635.out _; (with_reducible repeat (first | refine blk_drewN ?_ _ | refine blk_drew ?_ | refine blk_alloc ?_ _)); exact BK633.out) hb); replace BK635 := ak (blk_below (g := gb635) (o := .cells #[.slice A634_0 ((rd_T28 l0_2 x13_1).f0).length c634_0, .slice A634_1 ((rd_T28 l0_2 x13_1).f1).length c634_1, .slice A634_2 ((rd_T28 l0_2 x13_1).f2).length c634_2] 28 (0, 0)) (by (with_reducible repeat (first | refine blk_drewN ?_ _ | refine blk_drew ?_ | refine blk_alloc ?_ _)); refine blk_put (cs := #[.slice A634_0 ((rd_T28 l0_2 x13_1).f0).length c634_0, .slice A634_1 ((rd_T28 l0_2 x13_1).f1).length c634_1, .slice none 0 0]) ?_ 2 _ rfl; (with_reducible repeat (first | refine blk_drewN ?_ _ | refine blk_drew ?_ | refine blk_alloc ?_ _)); refine blk_put (cs := #[.slice A634_0 ((rd_T28 l0_2 x13_1).f0).length c634_0, .slice none 0 0, .slice none 0 0]) ?_ 1 _ rfl; (with_reducible repeat (first | refine blk_drewN ?_ _ | refine blk_drew ?_ | refine blk_alloc ?_ _)); refine blk_put (cs := #[.slice none 0 0, .slice none 0 0, .slice none 0 0]) ?_ 0 _ rfl; (with_reducible repeat (first | refine blk_drewN ?_ _ | refine blk_drew ?_ | refine blk_alloc ?_ _)); exact BK635.out) hb); replace HB := ak (below_step bb hb); (try clear hb)))
     go_roundg k1
     case measure => have := HK1.out; omega
     case rel => exact ⟨(wrap64 (x3_1 + t636)), (wrap64 (x13_1 + 1)), rs, rs, H', ⟨by have := HK1.out; omega⟩, ⟨ub BK633.out⟩, ⟨bb⟩⟩
    ·
     obtain rfl := Option.some.inj H
     go_wp2
     go_ret
     exact ⟨er, bb⟩
def impl_CountParts.f (k : Nat) (l0_0 : List (S69)) (l0_1 : List ByteArray) (l0_2 : List (S28)) : Option (Int) := (impl_PartValid.f k l0_0 l0_1 l0_2).bind fun t638 => (if t638 = true then ((impl_Part_leaves.f k l0_0 l0_1 l0_2).bind fun t639 => (some t639)) else (some 0))
set_option maxHeartbeats 8000000 in
set_option maxRecDepth 100000 in
theorem impl_CountParts.calls (k : Nat) (A0_0 : Option Addr) (c0_0 : Nat) (l0_0 : List (S69)) (A0_1 : Option Addr) (c0_1 : Nat) (l0_1 : List ByteArray) (A0_2 : Option Addr) (c0_2 : Nat) (l0_2 : List (S28)) (r : Int) (w : World) (hr0_0 : Kd.C k69 w A0_0 l0_0.length l0_0) (hc0_0 : l0_0.length ≤ c0_0) (hr0_1 : Kd.C Kd.string w A0_1 l0_1.length l0_1) (hc0_1 : l0_1.length ≤ c0_1) (hr0_2 : Kd.C k28 w A0_2 l0_2.length l0_2) (hc0_2 : l0_2.length ≤ c0_2) (hg_ : MaxOk w) (h : impl_CountParts.f k l0_0 l0_1 l0_2 = some r) :
  Calls Tryz.prog 34 #[.agg #[.slice A0_0 l0_0.length c0_0, .slice A0_1 l0_1.length c0_1, .slice A0_2 l0_2.length c0_2]] w fun e w' => e = .returned (.int .i64 r) ∧ Below w.heap.size w w' := by
 have hu28 := Tryz.underlying28
 have HR0_0 := ak hr0_0
 have HC0_0 := ak hc0_0
 clear hr0_0 hc0_0
 have HR0_1 := ak hr0_1
 have HC0_1 := ak hc0_1
 clear hr0_1 hc0_1
 have HR0_2 := ak hr0_2
 have HC0_2 := ak hc0_2
 clear hr0_2 hc0_2
 have HG := ak hg_
 clear hg_
 have HB := ak (Below.refl w.heap.size w)
 have H : ((impl_PartValid.f k l0_0 l0_1 l0_2).bind fun t638 => (if t638 = true then ((impl_Part_leaves.f k l0_0 l0_1 l0_2).bind fun t639 => (some t639)) else (some 0))) = some r := h
 clear h
 replace H := bd H; obtain ⟨t638, A2, H⟩ := H; replace H := sb H
 rcases H with ⟨rfl, H⟩ | ⟨rfl, H⟩
 ·
  replace H := bd H; obtain ⟨t639, A4, H⟩ := H
  obtain rfl := Option.some.inj H
  go_enter Tryz.func34, Tryz.ntmps34
  go_wp2_with (first | (refine bE 1 #[.slice A0_0 l0_0.length c0_0, .slice A0_1 l0_1.length c0_1, .slice A0_2 l0_2.length c0_2] 28 ?_; intro gb637 hg w5 hbox hb; have BK637 := ak (hbox); have GW637 := ge_ HB hg; have GE637 := ge_ HB hg; replace HB := bs HB hb; clear hb hbox hg; obtain ⟨hcz6_0, hcz6_1, hcz6_2, hfz6_0, hfz6_1, hfz6_2⟩ := cz3 BK637.out) | (refine gL 26 4 Tryz.func26 #[.agg #[.slice A0_0 l0_0.length c0_0, .slice A0_1 l0_1.length c0_1, .slice A0_2 l0_2.length c0_2]] ?_; (with_reducible refine (impl_PartValid.calls k _ _ l0_0 _ _ l0_1 _ _ l0_2 true _ ?side1 ?side2 ?side3 ?side4 ?side5 ?side6 ?side7 A2.out).mono ?_); (case side1 => repeat (first | exact (Kd.C_below HR0_0.out HB.out) | (with_reducible refine Kd.C_alloc ?_ _) | (with_reducible refine Kd.C_drewN ?_ _) | (with_reducible refine Kd.C_drew ?_))); (case side2 => exact HC0_0.out); (case side3 => repeat (first | exact (Kd.C_below HR0_1.out HB.out) | (with_reducible refine Kd.C_alloc ?_ _) | (with_reducible refine Kd.C_drewN ?_ _) | (with_reducible refine Kd.C_drew ?_))); (case side4 => exact HC0_1.out); (case side5 => repeat (first | exact (Kd.C_below HR0_2.out HB.out) | (with_reducible refine Kd.C_alloc ?_ _) | (with_reducible refine Kd.C_drewN ?_ _) | (with_reducible refine Kd.C_drew ?_))); (case side6 => exact HC0_2.out); (case side7 => first | exact HG.out | exact MaxOk.below HG.out bb | (repeat (first | exact HG.out | apply MaxOk.drewN | apply MaxOk.drew))); rintro e w7 ⟨rfl, hb⟩; refine ⟨_, rfl, ?_⟩; replace BK637 := kb BK637 hb; replace HB := ak (below_step bb hb); (try clear hb); obtain ⟨hcz8_0, hcz8_1, hcz8_2, hfz8_0, hfz8_1, hfz8_2⟩ := cz3 BK637.out) | (refine gL 78 7 Tryz.func78 #[.agg #[.slice A0_0 l0_0.length c0_0, .slice A0_1 l0_1.length c0_1, .slice A0_2 l0_2.length c0_2]] ?_; (with_reducible refine (impl_Part_leaves.calls k _ _ l0_0 _ _ l0_1 _ _ l0_2 t639 _ (cu (Kd.C_below HR0_0.out HB.out)) HC0_0.out (cu (Kd.C_below HR0_1.out HB.out)) HC0_1.out (cu (Kd.C_below HR0_2.out HB.out)) HC0_2.out A4.out).mono ?_); rintro e w9 ⟨rfl, hb⟩; refine ⟨_, rfl, ?_⟩; replace BK637 := kb BK637 hb; replace HB := ak (below_step bb hb); (try clear hb)))
  go_ret
  exact ⟨er, bb⟩
 ·
  obtain rfl := Option.some.inj H
  go_enter Tryz.func34, Tryz.ntmps34
  go_wp2_with (first | (refine bE 1 #[.slice A0_0 l0_0.length c0_0, .slice A0_1 l0_1.length c0_1, .slice A0_2 l0_2.length c0_2] 28 ?_; intro gb637 hg w10 hbox hb; have BK637 := ak (hbox); have GW637 := ge_ HB hg; have GE637 := ge_ HB hg; replace HB := bs HB hb; clear hb hbox hg; obtain ⟨hcz11_0, hcz11_1, hcz11_2, hfz11_0, hfz11_1, hfz11_2⟩ := cz3 BK637.out) | (refine gL 26 4 Tryz.func26 #[.agg #[.slice A0_0 l0_0.length c0_0, .slice A0_1 l0_1.length c0_1, .slice A0_2 l0_2.length c0_2]] ?_; (with_reducible refine (impl_PartValid.calls k _ _ l0_0 _ _ l0_1 _ _ l0_2 false _ ?side1 ?side2 ?side3 ?side4 ?side5 ?side6 ?side7 A2.out).mono ?_); (case side1 => repeat (first | exact (Kd.C_below HR0_0.out HB.out) | (with_reducible refine Kd.C_alloc ?_ _) | (with_reducible refine Kd.C_drewN ?_ _) | (with_reducible refine Kd.C_drew ?_))); (case side2 => exact HC0_0.out); (case side3 => repeat (first | exact (Kd.C_below HR0_1.out HB.out) | (with_reducible refine Kd.C_alloc ?_ _) | (with_reducible refine Kd.C_drewN ?_ _) | (with_reducible refine Kd.C_drew ?_))); (case side4 => exact HC0_1.out); (case side5 => repeat (first | exact (Kd.C_below HR0_2.out HB.out) | (with_reducible refine Kd.C_alloc ?_ _) | (with_reducible refine Kd.C_drewN ?_ _) | (with_reducible refine Kd.C_drew ?_))); (case side6 => exact HC0_2.out); (case side7 => first | exact HG.out | exact MaxOk.below HG.out bb | (repeat (first | exact HG.out | apply MaxOk.drewN | apply MaxOk.drew))); rintro e w12 ⟨rfl, hb⟩; refine ⟨_, rfl, ?_⟩; replace BK637 := kb BK637 hb; replace HB := ak (below_step bb hb); (try clear hb)))
  go_ret
  exact ⟨er, bb⟩
end Go.Proofs.YtncdadcmghglkaaGreatDoor.PFnExactCountParts
