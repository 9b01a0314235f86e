/- Printed walks; conditions: those in each statement. -/
import Derived.Test.YtncdadcmghglkaaGreatDoorVFnExactCountPartsQt
import Derived.Test.YtncdadcmghglkaaGreatDoorVFnExactCountPartsYt
import Derived.Test.YtncdadcmghglkaaGreatDoorPFnExactCountPartsx0
import Derived.Test.YtncdadcmghglkaaGreatDoorPFnExactCountPartsx1
import Derived.Test.YtncdadcmghglkaaGreatDoorPFnExactCountPartsx2
-- short
-- dense
-- sq
namespace Go.Proofs.YtncdadcmghglkaaGreatDoor.PFnExactCountParts
open Go.RowKit Go.Proofs.YtncdadcmghglkaaGreatDoor.X Go.Proofs.YtncdadcmghglkaaGreatDoorW.PrintWords Go.Proofs.YtncdadcmghglkaaGreatDoorW.PrintLast Go.Proofs.YtncdadcmghglkaaGreatDoorW.PrintMore
attribute [local go_sem] max2_int min2_int max_two min_two max_three min_three max_four min_four   -- for this text's walks alone
set_option linter.unusedVariables false
set_option linter.unusedSimpArgs false
mutual
def laws_eqPart.f : Nat → List (S69) → List ByteArray → List (S28) → List (S69) → List ByteArray → List (S28) → Option (Bool)
 | 0, _, _, _, _, _, _ => none
 | k + 1, l0_0, l0_1, l0_2, l1_0, l1_1, l1_2 => (laws_eqFieldS.f k l0_0 l1_0).bind fun t110 => (if t110 = true then ((laws_eqStringS.f k l0_1 l1_1).bind fun t111 => (if t111 = true then ((if (l0_2.length : Int) = (l1_2.length : Int) then (laws_eqPartS.l0 k l0_2 l1_2 0) else (some false)).bind fun t112 => (if t112 = true then (some true) else (some false))) else (some false))) else (some false))
def laws_eqPartS.l0 : Nat → List (S28) → List (S28) → Int → Option (Bool)
 | 0, _, _, _ => none
 | k + 1, x0, x1, x5 => if x5 < (x0.length : Int) then (if 0 ≤ x5 then (if x5 < (x1.length : Int) then ((laws_eqPart.f k ((rd_T28 x0 x5).f0) ((rd_T28 x0 x5).f1) ((rd_T28 x0 x5).f2) ((rd_T28 x1 x5).f0) ((rd_T28 x1 x5).f1) ((rd_T28 x1 x5).f2)).bind fun t103 => (if t103 = true then (laws_eqPartS.l0 k x0 x1 (wrap64 (x5 + 1))) else (some false))) else (none)) else (none)) else (some true)
end
def laws_eqPartS.f (k : Nat) (l0 : List (S28)) (l1 : List (S28)) : Option (Bool) := if (l0.length : Int) = (l1.length : Int) then (laws_eqPartS.l0 k l0 l1 0) else (some false)
theorem laws_eqPart.f_succ (k : Nat) (l0_0 : List (S69)) (l0_1 : List ByteArray) (l0_2 : List (S28)) (l1_0 : List (S69)) (l1_1 : List ByteArray) (l1_2 : List (S28)) : laws_eqPart.f (k + 1) l0_0 l0_1 l0_2 l1_0 l1_1 l1_2 = ((laws_eqFieldS.f k l0_0 l1_0).bind fun t110 => (if t110 = true then ((laws_eqStringS.f k l0_1 l1_1).bind fun t111 => (if t111 = true then ((laws_eqPartS.f k l0_2 l1_2).bind fun t112 => (if t112 = true then (some true) else (some false))) else (some false))) else (some false))) := by simp only [laws_eqPart.f, laws_eqPartS.f]
def laws_eqPartS.T6 : Bool × List (List Nat × List Nat) := (true, [([], []), ([], []), ([0, 1], [0, 1]), ([2], [2]), ([], []), ([], []), ([4, 5], [4, 5]), ([6], [6]), ([3, 7], [3, 7]), ([8], [8])])
def laws_eqPartS.B6 : List Nat := [0, 0, 3, 7, 0, 0, 48, 112, 255, 511]
theorem laws_eqPartS.tab6 : rtab .any (opsOf Tryz.f76 6) = laws_eqPartS.T6 := by kernel_rfl
theorem laws_eqPartS.bits6 : waitsOk laws_eqPartS.T6.2 laws_eqPartS.B6 = true := by kernel_rfl
set_option maxHeartbeats 8000000 in
set_option maxRecDepth 100000 in
theorem laws_eqPart.pair (k : Nat) : (∀ (A0_0 : Option Addr) (c0_0 : Nat) (l0_0 : List (S69)) (A0_1 : Option Addr) (c0_1 : Nat) (l0_1 : List ByteArray) (A0_2 : Option Addr) (c0_2 : Nat) (l0_2 : List (S28)) (A1_0 : Option Addr) (c1_0 : Nat) (l1_0 : List (S69)) (A1_1 : Option Addr) (c1_1 : Nat) (l1_1 : List ByteArray) (A1_2 : Option Addr) (c1_2 : Nat) (l1_2 : List (S28)) (r : Bool) (w : World) (hr0_0 : Kd.C k69 w A0_0 l0_0.length l0_0) (hc0_0 : l0_0.length ≤ c0_0) (hr0_1 : Kd.C Kd.string w A0_1 l0_1.length l0_1) (hc0_1 : l0_1.length ≤ c0_1) (hr0_2 : Kd.C k28 w A0_2 l0_2.length l0_2) (hc0_2 : l0_2.length ≤ c0_2) (hr1_0 : Kd.C k69 w A1_0 l1_0.length l1_0) (hc1_0 : l1_0.length ≤ c1_0) (hr1_1 : Kd.C Kd.string w A1_1 l1_1.length l1_1) (hc1_1 : l1_1.length ≤ c1_1) (hr1_2 : Kd.C k28 w A1_2 l1_2.length l1_2) (hc1_2 : l1_2.length ≤ c1_2) (h : laws_eqPart.f k l0_0 l0_1 l0_2 l1_0 l1_1 l1_2 = some r),
  Calls Tryz.prog 32 #[.agg #[.slice A0_0 l0_0.length c0_0, .slice A0_1 l0_1.length c0_1, .slice A0_2 l0_2.length c0_2], .agg #[.slice A1_0 l1_0.length c1_0, .slice A1_1 l1_1.length c1_1, .slice A1_2 l1_2.length c1_2]] w fun e w' => e = .returned (.bool r) ∧ Below w.heap.size w w') ∧
  (∀ (A0 : Option Addr) (c0 : Nat) (l0 : List (S28)) (A1 : Option Addr) (c1 : Nat) (l1 : List (S28)) (r : Bool) (w : World) (hr0 : Kd.C k28 w A0 l0.length l0) (hc0 : l0.length ≤ c0) (hr1 : Kd.C k28 w A1 l1.length l1) (hc1 : l1.length ≤ c1) (h : laws_eqPartS.f k l0 l1 = some r),
  Calls Tryz.prog 76 #[.slice A0 l0.length c0, .slice A1 l1.length c1] w fun e w' => e = .returned (.bool r) ∧ Below w.heap.size w w') := by
 induction k using Nat.strongRecOn with
 | _ k ih =>
 refine ⟨?_, ?_⟩
 ·
  cases k with
  | zero => intro A0_0 c0_0 l0_0 A0_1 c0_1 l0_1 A0_2 c0_2 l0_2 A1_0 c1_0 l1_0 A1_1 c1_1 l1_1 A1_2 c1_2 l1_2 r w hr0_0 hc0_0 hr0_1 hc0_1 hr0_2 hc0_2 hr1_0 hc1_0 hr1_1 hc1_1 hr1_2 hc1_2 h; exact absurd h (by simp [laws_eqPart.f])
  | succ k =>
  have ihB := (ih k (Nat.lt_succ_self k)).2
  clear ih
  intro A0_0 c0_0 l0_0 A0_1 c0_1 l0_1 A0_2 c0_2 l0_2 A1_0 c1_0 l1_0 A1_1 c1_1 l1_1 A1_2 c1_2 l1_2 r w hr0_0 hc0_0 hr0_1 hc0_1 hr0_2 hc0_2 hr1_0 hc1_0 hr1_1 hc1_1 hr1_2 hc1_2 h
  rw [laws_eqPart.f_succ] at h
  have hu28 := Tryz.underlying28
  have HR0_0 := ak hr0_0
  have HC0_0 := ak hc0_0
  clear hr0_0 hc0_0
  have HR0_1 := ak hr0_1
  have HC0_1 := ak hc0_1
  clear hr0_1 hc0_1
  have HR0_2 := ak hr0_2
  have HC0_2 := ak hc0_2
  clear hr0_2 hc0_2
  have HR1_0 := ak hr1_0
  have HC1_0 := ak hc1_0
  clear hr1_0 hc1_0
  have HR1_1 := ak hr1_1
  have HC1_1 := ak hc1_1
  clear hr1_1 hc1_1
  have HR1_2 := ak hr1_2
  have HC1_2 := ak hc1_2
  clear hr1_2 hc1_2
  have HB := ak (Below.refl w.heap.size w)
  have H : ((laws_eqFieldS.f k l0_0 l1_0).bind fun t110 => (if t110 = true then ((laws_eqStringS.f k l0_1 l1_1).bind fun t111 => (if t111 = true then ((laws_eqPartS.f k l0_2 l1_2).bind fun t112 => (if t112 = true then (some true) else (some false))) else (some false))) else (some false))) = some r := h
  clear h
  replace H := bd H; obtain ⟨t110, A3, H⟩ := H; replace H := sb H
  rcases H with ⟨rfl, H⟩ | ⟨rfl, H⟩
  ·
   replace H := bd H; obtain ⟨t111, A5, H⟩ := H; replace H := sb H
   rcases H with ⟨rfl, H⟩ | ⟨rfl, H⟩
   ·
    replace H := bd H; obtain ⟨t112, A7, H⟩ := H; replace H := sb H
    rcases H with ⟨rfl, H⟩ | ⟨rfl, H⟩
    ·
     obtain rfl := Option.some.inj H
     go_enter Tryz.func32, Tryz.ntmps32
     go_wp2_with (first | (refine bE 2 #[.slice A0_0 l0_0.length c0_0, .slice A0_1 l0_1.length c0_1, .slice A0_2 l0_2.length c0_2] 28 ?_; intro gb108 hg w9 hbox hb; have BK108 := ak (hbox); have GW108 := ge_ HB hg; have GE108 := ge_ HB hg; replace HB := bs HB hb; clear hb hbox hg) | (refine bE 3 #[.slice A1_0 l1_0.length c1_0, .slice A1_1 l1_1.length c1_1, .slice A1_2 l1_2.length c1_2] 28 ?_; intro gb109 hg w10 hbox hb; have BK109 := ak (hbox); have GW109 := ak ((by rw [hg]; exact (below_size bb) : w.heap.size ≤ gb109)); have GE109 := ak ((by rw [hg]; exact (below_size bb) : w.heap.size ≤ gb109)); have NB108_109 := ak ((by rw [hg]; exact Nat.ne_of_lt (blk_lt (ub BK108.out)) : gb108 ≠ gb109)); have NB109_108 := ak ((by rw [hg]; exact Nat.ne_of_gt (blk_lt (ub BK108.out)) : gb109 ≠ gb108)); replace BK108 := kb BK108 hb; replace HB := ak (below_step bb hb); clear hb hbox hg; have hnb11 := NB108_109.out; have hnc11 := NB109_108.out; obtain ⟨hcz12_0, hcz12_1, hcz12_2, hfz12_0, hfz12_1, hfz12_2⟩ := cz3 BK108.out; obtain ⟨hcz13_0, hcz13_1, hcz13_2, hfz13_0, hfz13_1, hfz13_2⟩ := cz3 BK109.out) | (refine gL 75 9 Tryz.func75 #[.slice A0_0 l0_0.length c0_0, .slice A1_0 l1_0.length c1_0] ?_; (with_reducible refine (laws_eqFieldS.calls k _ _ l0_0 _ _ l1_0 true _ (cu (Kd.C_below HR0_0.out HB.out)) HC0_0.out (cu (Kd.C_below HR1_0.out HB.out)) HC1_0.out A3.out).mono ?_); rintro e w14 ⟨rfl, hb⟩; refine ⟨_, rfl, ?_⟩; replace BK108 := kb BK108 hb; replace BK109 := kb BK109 hb; replace HB := ak (below_step bb hb); (try clear hb); obtain ⟨hcz15_0, hcz15_1, hcz15_2, hfz15_0, hfz15_1, hfz15_2⟩ := cz3 BK108.out; obtain ⟨hcz16_0, hcz16_1, hcz16_2, hfz16_0, hfz16_1, hfz16_2⟩ := cz3 BK109.out) | (refine gL 35 15 Tryz.func35 #[.slice A0_1 l0_1.length c0_1, .slice A1_1 l1_1.length c1_1] ?_; (with_reducible refine (laws_eqStringS.calls k _ _ l0_1 _ _ l1_1 true _ (cu (Kd.C_below HR0_1.out HB.out)) HC0_1.out (cu (Kd.C_below HR1_1.out HB.out)) HC1_1.out A5.out).mono ?_); rintro e w' ⟨rfl, ⟨nd, rfl⟩⟩; refine ⟨_, rfl, ?_⟩) | (refine gL 76 21 Tryz.func76 #[.slice A0_2 l0_2.length c0_2, .slice A1_2 l1_2.length c1_2] ?_; (with_reducible refine (ihB _ _ l0_2 _ _ l1_2 true _ (cu (Kd.C_below HR0_2.out bb)) HC0_2.out (cu (Kd.C_below HR1_2.out bb)) HC1_2.out A7.out).mono ?_); rintro e w17 ⟨rfl, hb⟩; refine ⟨_, rfl, ?_⟩; replace BK108 := kb BK108 hb; replace BK109 := kb BK109 hb; replace HB := ak (below_step bb hb); (try clear hb)))
     go_ret
     exact ⟨er, bb⟩
    ·
     obtain rfl := Option.some.inj H
     go_enter Tryz.func32, Tryz.ntmps32
     go_wp2_with (first | (refine bE 2 #[.slice A0_0 l0_0.length c0_0, .slice A0_1 l0_1.length c0_1, .slice A0_2 l0_2.length c0_2] 28 ?_; intro gb108 hg w18 hbox hb; have BK108 := ak (hbox); have GW108 := ge_ HB hg; have GE108 := ge_ HB hg; replace HB := bs HB hb; clear hb hbox hg) | (refine bE 3 #[.slice A1_0 l1_0.length c1_0, .slice A1_1 l1_1.length c1_1, .slice A1_2 l1_2.length c1_2] 28 ?_; intro gb109 hg w19 hbox hb; have BK109 := ak (hbox); have GW109 := ak ((by rw [hg]; exact (below_size bb) : w.heap.size ≤ gb109)); have GE109 := ak ((by rw [hg]; exact (below_size bb) : w.heap.size ≤ gb109)); have NB108_109 := ak ((by rw [hg]; exact Nat.ne_of_lt (blk_lt (ub BK108.out)) : gb108 ≠ gb109)); have NB109_108 := ak ((by rw [hg]; exact Nat.ne_of_gt (blk_lt (ub BK108.out)) : gb109 ≠ gb108)); replace BK108 := kb BK108 hb; replace HB := ak (below_step bb hb); clear hb hbox hg; have hnb20 := NB108_109.out; have hnc20 := NB109_108.out; obtain ⟨hcz21_0, hcz21_1, hcz21_2, hfz21_0, hfz21_1, hfz21_2⟩ := cz3 BK108.out; obtain ⟨hcz22_0, hcz22_1, hcz22_2, hfz22_0, hfz22_1, hfz22_2⟩ := cz3 BK109.out) | (refine gL 75 9 Tryz.func75 #[.slice A0_0 l0_0.length c0_0, .slice A1_0 l1_0.length c1_0] ?_; (with_reducible refine (laws_eqFieldS.calls k _ _ l0_0 _ _ l1_0 true _ (cu (Kd.C_below HR0_0.out HB.out)) HC0_0.out (cu (Kd.C_below HR1_0.out HB.out)) HC1_0.out A3.out).mono ?_); rintro e w23 ⟨rfl, hb⟩; refine ⟨_, rfl, ?_⟩; replace BK108 := kb BK108 hb; replace BK109 := kb BK109 hb; replace HB := ak (below_step bb hb); (try clear hb); obtain ⟨hcz24_0, hcz24_1, hcz24_2, hfz24_0, hfz24_1, hfz24_2⟩ := cz3 BK108.out; obtain ⟨hcz25_0, hcz25_1, hcz25_2, hfz25_0, hfz25_1, hfz25_2⟩ := cz3 BK109.out) | (refine gL 35 15 Tryz.func35 #[.slice A0_1 l0_1.length c0_1, .slice A1_1 l1_1.length c1_1] ?_; (with_reducible refine (laws_eqStringS.calls k _ _ l0_1 _ _ l1_1 true _ (cu (Kd.C_below HR0_1.out HB.out)) HC0_1.out (cu (Kd.C_below HR1_1.out HB.out)) HC1_1.out A5.out).mono ?_); rintro e w' ⟨rfl, ⟨nd, rfl⟩⟩; refine ⟨_, rfl, ?_⟩) | (refine gL 76 21 Tryz.func76 #[.slice A0_2 l0_2.length c0_2, .slice A1_2 l1_2.length c1_2] ?_; (with_reducible refine (ihB _ _ l0_2 _ _ l1_2 false _ (cu (Kd.C_below HR0_2.out bb)) HC0_2.out (cu (Kd.C_below HR1_2.out bb)) HC1_2.out A7.out).mono ?_); rintro e w26 ⟨rfl, hb⟩; refine ⟨_, rfl, ?_⟩; replace BK108 := kb BK108 hb; replace BK109 := kb BK109 hb; replace HB := ak (below_step bb hb); (try clear hb)))
     go_ret
     exact ⟨er, bb⟩
   ·
    obtain rfl := Option.some.inj H
    go_enter Tryz.func32, Tryz.ntmps32
    go_wp2_with (first | (refine bE 2 #[.slice A0_0 l0_0.length c0_0, .slice A0_1 l0_1.length c0_1, .slice A0_2 l0_2.length c0_2] 28 ?_; intro gb108 hg w27 hbox hb; have BK108 := ak (hbox); have GW108 := ge_ HB hg; have GE108 := ge_ HB hg; replace HB := bs HB hb; clear hb hbox hg) | (refine bE 3 #[.slice A1_0 l1_0.length c1_0, .slice A1_1 l1_1.length c1_1, .slice A1_2 l1_2.length c1_2] 28 ?_; intro gb109 hg w28 hbox hb; have BK109 := ak (hbox); have GW109 := ak ((by rw [hg]; exact (below_size bb) : w.heap.size ≤ gb109)); have GE109 := ak ((by rw [hg]; exact (below_size bb) : w.heap.size ≤ gb109)); have NB108_109 := ak ((by rw [hg]; exact Nat.ne_of_lt (blk_lt (ub BK108.out)) : gb108 ≠ gb109)); have NB109_108 := ak ((by rw [hg]; exact Nat.ne_of_gt (blk_lt (ub BK108.out)) : gb109 ≠ gb108)); replace BK108 := kb BK108 hb; replace HB := ak (below_step bb hb); clear hb hbox hg; have hnb29 := NB108_109.out; have hnc29 := NB109_108.out; obtain ⟨hcz30_0, hcz30_1, hcz30_2, hfz30_0, hfz30_1, hfz30_2⟩ := cz3 BK108.out; obtain ⟨hcz31_0, hcz31_1, hcz31_2, hfz31_0, hfz31_1, hfz31_2⟩ := cz3 BK109.out) | (refine gL 75 9 Tryz.func75 #[.slice A0_0 l0_0.length c0_0, .slice A1_0 l1_0.length c1_0] ?_; (with_reducible refine (laws_eqFieldS.calls k _ _ l0_0 _ _ l1_0 true _ (cu (Kd.C_below HR0_0.out HB.out)) HC0_0.out (cu (Kd.C_below HR1_0.out HB.out)) HC1_0.out A3.out).mono ?_); rintro e w32 ⟨rfl, hb⟩; refine ⟨_, rfl, ?_⟩; replace BK108 := kb BK108 hb; replace BK109 := kb BK109 hb; replace HB := ak (below_step bb hb); (try clear hb); obtain ⟨hcz33_0, hcz33_1, hcz33_2, hfz33_0, hfz33_1, hfz33_2⟩ := cz3 BK108.out; obtain ⟨hcz34_0, hcz34_1, hcz34_2, hfz34_0, hfz34_1, hfz34_2⟩ := cz3 BK109.out) | (refine gL 35 15 Tryz.func35 #[.slice A0_1 l0_1.length c0_1, .slice A1_1 l1_1.length c1_1] ?_; (with_reducible refine (laws_eqStringS.calls k _ _ l0_1 _ _ l1_1 false _ (cu (Kd.C_below HR0_1.out HB.out)) HC0_1.out (cu (Kd.C_below HR1_1.out HB.out)) HC1_1.out A5.out).mono ?_); rintro e w' ⟨rfl, ⟨nd, rfl⟩⟩; refine ⟨_, rfl, ?_⟩))
    go_ret
    exact ⟨er, bb⟩
  ·
   obtain rfl := Option.some.inj H
   go_enter Tryz.func32, Tryz.ntmps32
   go_wp2_with (first | (refine bE 2 #[.slice A0_0 l0_0.length c0_0, .slice A0_1 l0_1.length c0_1, .slice A0_2 l0_2.length c0_2] 28 ?_; intro gb108 hg w35 hbox hb; have BK108 := ak (hbox); have GW108 := ge_ HB hg; have GE108 := ge_ HB hg; replace HB := bs HB hb; clear hb hbox hg) | (refine bE 3 #[.slice A1_0 l1_0.length c1_0, .slice A1_1 l1_1.length c1_1, .slice A1_2 l1_2.length c1_2] 28 ?_; intro gb109 hg w36 hbox hb; have BK109 := ak (hbox); have GW109 := ak ((by rw [hg]; exact (below_size bb) : w.heap.size ≤ gb109)); have GE109 := ak ((by rw [hg]; exact (below_size bb) : w.heap.size ≤ gb109)); have NB108_109 := ak ((by rw [hg]; exact Nat.ne_of_lt (blk_lt (ub BK108.out)) : gb108 ≠ gb109)); have NB109_108 := ak ((by rw [hg]; exact Nat.ne_of_gt (blk_lt (ub BK108.out)) : gb109 ≠ gb108)); replace BK108 := kb BK108 hb; replace HB := ak (below_step bb hb); clear hb hbox hg; have hnb37 := NB108_109.out; have hnc37 := NB109_108.out; obtain ⟨hcz38_0, hcz38_1, hcz38_2, hfz38_0, hfz38_1, hfz38_2⟩ := cz3 BK108.out; obtain ⟨hcz39_0, hcz39_1, hcz39_2, hfz39_0, hfz39_1, hfz39_2⟩ := cz3 BK109.out) | (refine gL 75 9 Tryz.func75 #[.slice A0_0 l0_0.length c0_0, .slice A1_0 l1_0.length c1_0] ?_; (with_reducible refine (laws_eqFieldS.calls k _ _ l0_0 _ _ l1_0 false _ (cu (Kd.C_below HR0_0.out HB.out)) HC0_0.out (cu (Kd.C_below HR1_0.out HB.out)) HC1_0.out A3.out).mono ?_); rintro e w40 ⟨rfl, hb⟩; refine ⟨_, rfl, ?_⟩; replace BK108 := kb BK108 hb; replace BK109 := kb BK109 hb; replace HB := ak (below_step bb hb); (try clear hb)))
   go_ret
   exact ⟨er, bb⟩
 ·
  intro A0 c0 l0 A1 c1 l1 r w hr0 hc0 hr1 hc1 h
  have hu28 := Tryz.underlying28
  have HR0 := ak hr0
  have HC0 := ak hc0
  clear hr0 hc0
  have HR1 := ak hr1
  have HC1 := ak hc1
  clear hr1 hc1
  have HB := ak (Below.refl w.heap.size w)
  have H : (if (l0.length : Int) = (l1.length : Int) then (laws_eqPartS.l0 k l0 l1 0) else (some false)) = some r := h
  clear h
  replace H := sp H
  rcases H with ⟨c3, H⟩ | ⟨c3, H⟩
  ·
   have c3b0 := beq_iff_eq.mpr c3
   have c3b1 := bne_eq_false_iff_eq.mpr c3
   have c3b2 : (l0.length == l1.length) = true := by first | simpa using c3 | (simp at c3 ⊢; omega)
   clear c3
   have H' := ak H; clear H
   go_enter Tryz.func76, Tryz.ntmps76
   go_wp2
   go_loopg [5] k (fun kq v5 w' => ∃ (x5_1 : Int), v5 = .int .i64 x5_1 ∧ Aside0 (laws_eqPartS.l0 kq l0 l1 x5_1 = some r) ∧ Aside0 (kq ≤ k) ∧ Aside0 (Below w.heap.size w w'))
   case atStart => exact ⟨(0), rs, H', ⟨Nat.le_refl _⟩, ⟨ul HB.out⟩⟩
   case round =>
    clear H'
    try clear c1
    try clear p2
    try clear c3
    try clear c3b0
    try clear c3b1
    try clear c3b2
    obtain ⟨x5_1, rfl, HA, HK1, HB⟩ := hrel
    cases gk with
    | zero => exact absurd HA.out (by simp [laws_eqPartS.l0])
    | succ k1 =>
     have H := HA.out
     clear HA
     simp only [laws_eqPartS.l0] at H
     replace H := sd H
     rcases H with ⟨c4b0, H⟩ | ⟨c4b0, H⟩
     ·
      replace H := nde H; obtain ⟨c5b0, H⟩ := H; replace H := nde H; obtain ⟨c6b0, H⟩ := H; replace H := bd H; obtain ⟨t103, A7, H⟩ := H; replace H := sb H
      rcases H with ⟨rfl, H⟩ | ⟨rfl, H⟩
      ·
       have H' := ak H; clear H
       try go_wp2
       replace HB := ak (below_drew1 HB.out)
       have p101 := zi x5_1
       have q101 := zj x5_1 l0.length
       obtain ⟨ad101, A101_0, c101_0, A101_1, c101_1, A101_2, c101_2, e101, hx101_0, hx101_1, hx101_2, hl101_0, hi101_0, hl101_1, hi101_1, hl101_2, hi101_2⟩ := at_T28 HR0.out x5_1 p101 q101
       have hw101_2 := hx101_2
       have hw101_1 := hx101_1
       have hw101_0 := hx101_0
       cases e101
       replace hx101_0 := cl HB.out hx101_0
       replace hx101_1 := cl HB.out hx101_1
       replace hx101_2 := cl HB.out hx101_2
       have HR101_0 := ak hi101_0
       have HC101_0 := ak hl101_0
       clear hi101_0 hl101_0
       have HR101_1 := ak hi101_1
       have HC101_1 := ak hl101_1
       clear hi101_1 hl101_1
       have HR101_2 := ak hi101_2
       have HC101_2 := ak hl101_2
       clear hi101_2 hl101_2
       replace p101 := eq_true p101
       replace q101 := eq_true q101
       have p102 := zi x5_1
       have q102 := zj x5_1 l1.length
       obtain ⟨ad102, A102_0, c102_0, A102_1, c102_1, A102_2, c102_2, e102, hx102_0, hx102_1, hx102_2, hl102_0, hi102_0, hl102_1, hi102_1, hl102_2, hi102_2⟩ := at_T28 HR1.out x5_1 p102 q102
       have hw102_2 := hx102_2
       have hw102_1 := hx102_1
       have hw102_0 := hx102_0
       cases e102
       replace hx102_0 := cl HB.out hx102_0
       replace hx102_1 := cl HB.out hx102_1
       replace hx102_2 := cl HB.out hx102_2
       have HR102_0 := ak hi102_0
       have HC102_0 := ak hl102_0
       clear hi102_0 hl102_0
       have HR102_1 := ak hi102_1
       have HC102_1 := ak hl102_1
       clear hi102_1 hl102_1
       have HR102_2 := ak hi102_2
       have HC102_2 := ak hl102_2
       clear hi102_2 hl102_2
       replace p102 := eq_true p102
       replace q102 := eq_true q102
       refine ro [8] [0, 1, 2, 4, 5, 6, 3, 7, 8, 9] (fun w' => w'.cell? (ad101.add ((x5_1).toNat * 3)) = some (.slice A101_0 ((rd_T28 l0 x5_1).f0).length c101_0) ∧ w'.cell? ⟨(ad101.add ((x5_1).toNat * 3)).block, (ad101.add ((x5_1).toNat * 3)).off + 1, none⟩ = some (.slice A101_1 ((rd_T28 l0 x5_1).f1).length c101_1) ∧ w'.cell? ⟨(ad101.add ((x5_1).toNat * 3)).block, (ad101.add ((x5_1).toNat * 3)).off + 2, none⟩ = some (.slice A101_2 ((rd_T28 l0 x5_1).f2).length c101_2) ∧ w'.cell? (ad102.add ((x5_1).toNat * 3)) = some (.slice A102_0 ((rd_T28 l1 x5_1).f0).length c102_0) ∧ w'.cell? ⟨(ad102.add ((x5_1).toNat * 3)).block, (ad102.add ((x5_1).toNat * 3)).off + 1, none⟩ = some (.slice A102_1 ((rd_T28 l1 x5_1).f1).length c102_1) ∧ w'.cell? ⟨(ad102.add ((x5_1).toNat * 3)).block, (ad102.add ((x5_1).toNat * 3)).off + 2, none⟩ = some (.slice A102_2 ((rd_T28 l1 x5_1).f2).length c102_2)) ⟨((HB.out.cell (World.block_lt_of_cell? w _ hw101_0)).trans hw101_0), ((HB.out.cell (World.block_lt_of_cell? w _ hw101_1)).trans hw101_1), ((HB.out.cell (World.block_lt_of_cell? w _ hw101_2)).trans hw101_2), ((HB.out.cell (World.block_lt_of_cell? w _ hw102_0)).trans hw102_0), ((HB.out.cell (World.block_lt_of_cell? w _ hw102_1)).trans hw102_1), ((HB.out.cell (World.block_lt_of_cell? w _ hw102_2)).trans hw102_2)⟩ ?_
       generalize wr.drew = w9 at HB HR101_0 HR101_1 HR101_2 HR102_0 HR102_1 HR102_2 hx101_0 hx101_1 hx101_2 hx102_0 hx102_1 hx102_2 ⊢
       repeat (refine lk (v := ?_) (a' := ?_) (gk.trans rfl) rfl rfl ?_ ?_ ?_; rotate_left; (focus (rintro w' ⟨s0, s1, s2, s3, s4, s5⟩; go_simp; with_reducible rfl)); rotate_left; (focus (simp only [Act.put, l_a, l_b, l_c, i64_w, i32_w]; rfl)))
       refine ld (N := some 25) (gk.trans rfl) rfl rfl (fun K hK => ?_)
       refine goes_ Tryz.func32 (by kernel_rfl) rfl #[.agg #[.slice A101_0 ((rd_T28 l0 x5_1).f0).length c101_0, .slice A101_1 ((rd_T28 l0 x5_1).f1).length c101_1, .slice A101_2 ((rd_T28 l0 x5_1).f2).length c101_2], .agg #[.slice A102_0 ((rd_T28 l1 x5_1).f0).length c102_0, .slice A102_1 ((rd_T28 l1 x5_1).f1).length c102_1, .slice A102_2 ((rd_T28 l1 x5_1).f2).length c102_2]] (by rfl) rfl rfl ma ?_
       with_reducible refine ((ih k1 (by have := HK1.out; omega)).1 _ _ ((rd_T28 l0 x5_1).f0) _ _ ((rd_T28 l0 x5_1).f1) _ _ ((rd_T28 l0 x5_1).f2) _ _ ((rd_T28 l1 x5_1).f0) _ _ ((rd_T28 l1 x5_1).f1) _ _ ((rd_T28 l1 x5_1).f2) true _ ?side1 ?side2 ?side3 ?side4 ?side5 ?side6 ?side7 ?side8 ?side9 ?side10 ?side11 ?side12 A7.out).mono ?_
       (case side1 => repeat (first | exact (Kd.C_below HR101_0.out HB.out) | (with_reducible refine Kd.C_alloc ?_ _) | (with_reducible refine Kd.C_drewN ?_ _) | (with_reducible refine Kd.C_drew ?_)))
       (case side2 => exact HC101_0.out)
       (case side3 => repeat (first | exact (Kd.C_below HR101_1.out HB.out) | (with_reducible refine Kd.C_alloc ?_ _) | (with_reducible refine Kd.C_drewN ?_ _) | (with_reducible refine Kd.C_drew ?_)))
       (case side4 => exact HC101_1.out)
       (case side5 => repeat (first | exact (Kd.C_below HR101_2.out HB.out) | (with_reducible refine Kd.C_alloc ?_ _) | (with_reducible refine Kd.C_drewN ?_ _) | (with_reducible refine Kd.C_drew ?_)))
       (case side6 => exact HC101_2.out)
       (case side7 => repeat (first | exact (Kd.C_below HR102_0.out HB.out) | (with_reducible refine Kd.C_alloc ?_ _) | (with_reducible refine Kd.C_drewN ?_ _) | (with_reducible refine Kd.C_drew ?_)))
       (case side8 => exact HC102_0.out)
       (case side9 => repeat (first | exact (Kd.C_below HR102_1.out HB.out) | (with_reducible refine Kd.C_alloc ?_ _) | (with_reducible refine Kd.C_drewN ?_ _) | (with_reducible refine Kd.C_drew ?_)))
       (case side10 => exact HC102_1.out)
       (case side11 => repeat (first | exact (Kd.C_below HR102_2.out HB.out) | (with_reducible refine Kd.C_alloc ?_ _) | (with_reducible refine Kd.C_drewN ?_ _) | (with_reducible refine Kd.C_drew ?_)))
       (case side12 => exact HC102_2.out)
       rintro e w10 ⟨rfl, hb⟩
       refine ⟨_, rfl, ?_⟩
       replace HB := bs HB hb
       (try clear hb)
       refine hK.out _ _ ⟨((HB.out.cell (World.block_lt_of_cell? w _ hw101_0)).trans hw101_0), ((HB.out.cell (World.block_lt_of_cell? w _ hw101_1)).trans hw101_1), ((HB.out.cell (World.block_lt_of_cell? w _ hw101_2)).trans hw101_2), ((HB.out.cell (World.block_lt_of_cell? w _ hw102_0)).trans hw102_0), ((HB.out.cell (World.block_lt_of_cell? w _ hw102_1)).trans hw102_1), ((HB.out.cell (World.block_lt_of_cell? w _ hw102_2)).trans hw102_2)⟩ ?_
       clear hK K
       refine no (a' := ?_) ?_ ?_
       rotate_left
       ·
        show Act.put _ (some 25) _ = _
        simp only [Act.put, l_a, l_b, l_c, i64_w, i32_w]
        rfl
       repeat (refine lk (v := ?_) (a' := ?_) (gk.trans rfl) rfl rfl ?_ ?_ ?_; rotate_left; (focus (rintro w' ⟨s0, s1, s2, s3, s4, s5⟩; go_simp; with_reducible rfl)); rotate_left; (focus (simp only [Act.put, l_a, l_b, l_c, i64_w, i32_w]; rfl)))
       refine on ?_
       try go_wp2
       go_roundg k1
       case measure => have := HK1.out; omega
       case rel => exact ⟨(wrap64 (x5_1 + 1)), rs, H', ⟨by have := HK1.out; omega⟩, ⟨ul HB.out⟩⟩
      ·
       obtain rfl := Option.some.inj H
       try go_wp2
       replace HB := ak (below_drew1 HB.out)
       have p101 := zi x5_1
       have q101 := zj x5_1 l0.length
       obtain ⟨ad101, A101_0, c101_0, A101_1, c101_1, A101_2, c101_2, e101, hx101_0, hx101_1, hx101_2, hl101_0, hi101_0, hl101_1, hi101_1, hl101_2, hi101_2⟩ := at_T28 HR0.out x5_1 p101 q101
       have hw101_2 := hx101_2
       have hw101_1 := hx101_1
       have hw101_0 := hx101_0
       cases e101
       replace hx101_0 := cl HB.out hx101_0
       replace hx101_1 := cl HB.out hx101_1
       replace hx101_2 := cl HB.out hx101_2
       have HR101_0 := ak hi101_0
       have HC101_0 := ak hl101_0
       clear hi101_0 hl101_0
       have HR101_1 := ak hi101_1
       have HC101_1 := ak hl101_1
       clear hi101_1 hl101_1
       have HR101_2 := ak hi101_2
       have HC101_2 := ak hl101_2
       clear hi101_2 hl101_2
       replace p101 := eq_true p101
       replace q101 := eq_true q101
       have p102 := zi x5_1
       have q102 := zj x5_1 l1.length
       obtain ⟨ad102, A102_0, c102_0, A102_1, c102_1, A102_2, c102_2, e102, hx102_0, hx102_1, hx102_2, hl102_0, hi102_0, hl102_1, hi102_1, hl102_2, hi102_2⟩ := at_T28 HR1.out x5_1 p102 q102
       have hw102_2 := hx102_2
       have hw102_1 := hx102_1
       have hw102_0 := hx102_0
       cases e102
       replace hx102_0 := cl HB.out hx102_0
       replace hx102_1 := cl HB.out hx102_1
       replace hx102_2 := cl HB.out hx102_2
       have HR102_0 := ak hi102_0
       have HC102_0 := ak hl102_0
       clear hi102_0 hl102_0
       have HR102_1 := ak hi102_1
       have HC102_1 := ak hl102_1
       clear hi102_1 hl102_1
       have HR102_2 := ak hi102_2
       have HC102_2 := ak hl102_2
       clear hi102_2 hl102_2
       replace p102 := eq_true p102
       replace q102 := eq_true q102
       refine ro [8] [0, 1, 2, 4, 5, 6, 3, 7, 8, 9] (fun w' => w'.cell? (ad101.add ((x5_1).toNat * 3)) = some (.slice A101_0 ((rd_T28 l0 x5_1).f0).length c101_0) ∧ w'.cell? ⟨(ad101.add ((x5_1).toNat * 3)).block, (ad101.add ((x5_1).toNat * 3)).off + 1, none⟩ = some (.slice A101_1 ((rd_T28 l0 x5_1).f1).length c101_1) ∧ w'.cell? ⟨(ad101.add ((x5_1).toNat * 3)).block, (ad101.add ((x5_1).toNat * 3)).off + 2, none⟩ = some (.slice A101_2 ((rd_T28 l0 x5_1).f2).length c101_2) ∧ w'.cell? (ad102.add ((x5_1).toNat * 3)) = some (.slice A102_0 ((rd_T28 l1 x5_1).f0).length c102_0) ∧ w'.cell? ⟨(ad102.add ((x5_1).toNat * 3)).block, (ad102.add ((x5_1).toNat * 3)).off + 1, none⟩ = some (.slice A102_1 ((rd_T28 l1 x5_1).f1).length c102_1) ∧ w'.cell? ⟨(ad102.add ((x5_1).toNat * 3)).block, (ad102.add ((x5_1).toNat * 3)).off + 2, none⟩ = some (.slice A102_2 ((rd_T28 l1 x5_1).f2).length c102_2)) ⟨((HB.out.cell (World.block_lt_of_cell? w _ hw101_0)).trans hw101_0), ((HB.out.cell (World.block_lt_of_cell? w _ hw101_1)).trans hw101_1), ((HB.out.cell (World.block_lt_of_cell? w _ hw101_2)).trans hw101_2), ((HB.out.cell (World.block_lt_of_cell? w _ hw102_0)).trans hw102_0), ((HB.out.cell (World.block_lt_of_cell? w _ hw102_1)).trans hw102_1), ((HB.out.cell (World.block_lt_of_cell? w _ hw102_2)).trans hw102_2)⟩ ?_
       generalize wr.drew = w11 at HB HR101_0 HR101_1 HR101_2 HR102_0 HR102_1 HR102_2 hx101_0 hx101_1 hx101_2 hx102_0 hx102_1 hx102_2 ⊢
       repeat (refine lk (v := ?_) (a' := ?_) (gk.trans rfl) rfl rfl ?_ ?_ ?_; rotate_left; (focus (rintro w' ⟨s0, s1, s2, s3, s4, s5⟩; go_simp; with_reducible rfl)); rotate_left; (focus (simp only [Act.put, l_a, l_b, l_c, i64_w, i32_w]; rfl)))
       refine ld (N := some 25) (gk.trans rfl) rfl rfl (fun K hK => ?_)
       refine goes_ Tryz.func32 (by kernel_rfl) rfl #[.agg #[.slice A101_0 ((rd_T28 l0 x5_1).f0).length c101_0, .slice A101_1 ((rd_T28 l0 x5_1).f1).length c101_1, .slice A101_2 ((rd_T28 l0 x5_1).f2).length c101_2], .agg #[.slice A102_0 ((rd_T28 l1 x5_1).f0).length c102_0, .slice A102_1 ((rd_T28 l1 x5_1).f1).length c102_1, .slice A102_2 ((rd_T28 l1 x5_1).f2).length c102_2]] (by rfl) rfl rfl ma ?_
       with_reducible refine ((ih k1 (by have := HK1.out; omega)).1 _ _ ((rd_T28 l0 x5_1).f0) _ _ ((rd_T28 l0 x5_1).f1) _ _ ((rd_T28 l0 x5_1).f2) _ _ ((rd_T28 l1 x5_1).f0) _ _ ((rd_T28 l1 x5_1).f1) _ _ ((rd_T28 l1 x5_1).f2) false _ ?side1 ?side2 ?side3 ?side4 ?side5 ?side6 ?side7 ?side8 ?side9 ?side10 ?side11 ?side12 A7.out).mono ?_
       (case side1 => repeat (first | exact (Kd.C_below HR101_0.out HB.out) | (with_reducible refine Kd.C_alloc ?_ _) | (with_reducible refine Kd.C_drewN ?_ _) | (with_reducible refine Kd.C_drew ?_)))
       (case side2 => exact HC101_0.out)
       (case side3 => repeat (first | exact (Kd.C_below HR101_1.out HB.out) | (with_reducible refine Kd.C_alloc ?_ _) | (with_reducible refine Kd.C_drewN ?_ _) | (with_reducible refine Kd.C_drew ?_)))
       (case side4 => exact HC101_1.out)
       (case side5 => repeat (first | exact (Kd.C_below HR101_2.out HB.out) | (with_reducible refine Kd.C_alloc ?_ _) | (with_reducible refine Kd.C_drewN ?_ _) | (with_reducible refine Kd.C_drew ?_)))
       (case side6 => exact HC101_2.out)
       (case side7 => repeat (first | exact (Kd.C_below HR102_0.out HB.out) | (with_reducible refine Kd.C_alloc ?_ _) | (with_reducible refine Kd.C_drewN ?_ _) | (with_reducible refine Kd.C_drew ?_)))
       (case side8 => exact HC102_0.out)
       (case side9 => repeat (first | exact (Kd.C_below HR102_1.out HB.out) | (with_reducible refine Kd.C_alloc ?_ _) | (with_reducible refine Kd.C_drewN ?_ _) | (with_reducible refine Kd.C_drew ?_)))
       (case side10 => exact HC102_1.out)
       (case side11 => repeat (first | exact (Kd.C_below HR102_2.out HB.out) | (with_reducible refine Kd.C_alloc ?_ _) | (with_reducible refine Kd.C_drewN ?_ _) | (with_reducible refine Kd.C_drew ?_)))
       (case side12 => exact HC102_2.out)
       rintro e w12 ⟨rfl, hb⟩
       refine ⟨_, rfl, ?_⟩
       replace HB := bs HB hb
       (try clear hb)
       refine hK.out _ _ ⟨((HB.out.cell (World.block_lt_of_cell? w _ hw101_0)).trans hw101_0), ((HB.out.cell (World.block_lt_of_cell? w _ hw101_1)).trans hw101_1), ((HB.out.cell (World.block_lt_of_cell? w _ hw101_2)).trans hw101_2), ((HB.out.cell (World.block_lt_of_cell? w _ hw102_0)).trans hw102_0), ((HB.out.cell (World.block_lt_of_cell? w _ hw102_1)).trans hw102_1), ((HB.out.cell (World.block_lt_of_cell? w _ hw102_2)).trans hw102_2)⟩ ?_
       clear hK K
       refine no (a' := ?_) ?_ ?_
       rotate_left
       ·
        show Act.put _ (some 25) _ = _
        simp only [Act.put, l_a, l_b, l_c, i64_w, i32_w]
        rfl
       repeat (refine lk (v := ?_) (a' := ?_) (gk.trans rfl) rfl rfl ?_ ?_ ?_; rotate_left; (focus (rintro w' ⟨s0, s1, s2, s3, s4, s5⟩; go_simp; with_reducible rfl)); rotate_left; (focus (simp only [Act.put, l_a, l_b, l_c, i64_w, i32_w]; rfl)))
       refine on ?_
       try go_wp2
       go_ret
       exact ⟨er, ul HB.out⟩
     ·
      obtain rfl := Option.some.inj H
      go_wp2
      go_ret
      exact ⟨er, ul HB.out⟩
  ·
   have c3b0 := beq_eq_false_iff_ne.mpr c3
   have c3b1 := bne_iff_ne.mpr c3
   have c3b2 : (l0.length == l1.length) = false := by first | simpa using c3 | (simp at c3 ⊢; omega)
   obtain rfl := Option.some.inj H
   go_enter Tryz.func76, Tryz.ntmps76
   go_wp2
   go_ret
   exact ⟨er, ul HB.out⟩
end Go.Proofs.YtncdadcmghglkaaGreatDoor.PFnExactCountParts
