/- Printed walks; conditions: those in each statement. -/
import Derived.Test.YtncdadcmghglkaaGreatDoorVFnPartSameQt
import Derived.Test.YtncdadcmghglkaaGreatDoorVFnPartSameYt
import Derived.Test.YtncdadcmghglkaaGreatDoorPFnPartSamex0
import Derived.Test.YtncdadcmghglkaaGreatDoorPFnPartSamex23
-- short
-- dense
-- sq
-- sq2
namespace Go.Proofs.YtncdadcmghglkaaGreatDoor.PFnPartSame
open Go.RowKit Go.Proofs.YtncdadcmghglkaaGreatDoor.X Go.Proofs.YtncdadcmghglkaaGreatDoorW.PrintWords Go.Proofs.YtncdadcmghglkaaGreatDoorW.PrintLast Go.Proofs.YtncdadcmghglkaaGreatDoorW.PrintMore
attribute [local go_sem] max2_int min2_int max_two min_two max_three min_three max_four min_four   -- for this text's walks alone
set_option linter.unusedVariables false
set_option maxHeartbeats 8000000
set_option maxRecDepth 100000
set_option linter.unusedSimpArgs false
mutual
def spec_l8Same.j0 : Nat → Bool → List (S69) → List ByteArray → List (S28) → List (S69) → List ByteArray → List (S28) → Option (Bool)
 | 0, _, _, _, _, _, _, _ => none
 | k + 1, x30, x799000, x799001, x799002, x800000, x800001, x800002 => if x30 = true then (some false) else (spec_l8Same.l0 k 0 x799000 x799001 x799002 x800000 x800001 x800002)
def spec_l8Same.l0 : Nat → Int → List (S69) → List ByteArray → List (S28) → List (S69) → List ByteArray → List (S28) → Option (Bool)
 | 0, _, _, _, _, _, _, _ => none
 | k + 1, x5, x799000, x799001, x799002, x800000, x800001, x800002 => if x5 < (x799001.length : Int) then (if 0 ≤ x5 then (if x5 < (x800001.length : Int) then (if (rdOf ByteArray.empty x799001 x5).toList = (rdOf ByteArray.empty x800001 x5).toList then (spec_l8Same.l0 k (wrap64 (x5 + 1)) x799000 x799001 x799002 x800000 x800001 x800002) else (some false)) else (none)) else (none)) else (spec_l8Same.l1 k 0 x799000 x799001 x799002 x800000 x800001 x800002)
def spec_l8Same.l1 : Nat → Int → List (S69) → List ByteArray → List (S28) → List (S69) → List ByteArray → List (S28) → Option (Bool)
 | 0, _, _, _, _, _, _, _ => none
 | k + 1, x6, x799000, x799001, x799002, x800000, x800001, x800002 => if x6 < (x799002.length : Int) then (if 0 ≤ x6 then (if x6 < (x800002.length : Int) then ((spec_l8Same.f k ((rd_T28 x799002 x6).f0) ((rd_T28 x799002 x6).f1) ((rd_T28 x799002 x6).f2) ((rd_T28 x800002 x6).f0) ((rd_T28 x800002 x6).f1) ((rd_T28 x800002 x6).f2)).bind fun t805 => (if t805 = true then (spec_l8Same.l1 k (wrap64 (x6 + 1)) x799000 x799001 x799002 x800000 x800001 x800002) else (some false))) else (none)) else (none)) else (some true)
def spec_l8Same.f : Nat → List (S69) → List ByteArray → List (S28) → List (S69) → List ByteArray → List (S28) → Option (Bool)
 | 0, _, _, _, _, _, _ => none
 | k + 1, l0_0, l0_1, l0_2, l1_0, l1_1, l1_2 => (spec_FieldsSame.f k l0_0 l1_0).bind fun t800 => (if t800 = true then (if (l0_1.length : Int) = (l1_1.length : Int) then (spec_l8Same.j0 k ((l0_2.length : Int) != (l1_2.length : Int)) l0_0 l0_1 l0_2 l1_0 l1_1 l1_2) else (spec_l8Same.j0 k true l0_0 l0_1 l0_2 l1_0 l1_1 l1_2)) else (spec_l8Same.j0 k true l0_0 l0_1 l0_2 l1_0 l1_1 l1_2))
end
def spec_l8Same.T6 : Bool × List (List Nat × List Nat) := (true, [([], []), ([0], [0]), ([], []), ([1, 2], [1, 2]), ([3], [3]), ([], []), ([5], [5]), ([], []), ([6, 7], [6, 7]), ([8], [8]), ([4, 9], [4, 9])])
def spec_l8Same.B6 : List Nat := [0, 1, 0, 7, 15, 0, 32, 0, 224, 480, 1023]
theorem spec_l8Same.tab6 : rtab .any (opsOf Tryz.f69 6) = spec_l8Same.T6 := by kernel_rfl
theorem spec_l8Same.bits6 : waitsOk spec_l8Same.T6.2 spec_l8Same.B6 = true := by kernel_rfl
def spec_l8Same.T11 : Bool × List (List Nat × List Nat) := (true, [([], []), ([0], [0]), ([], []), ([1, 2], [1, 2]), ([3], [3]), ([], []), ([5], [5]), ([], []), ([6, 7], [6, 7]), ([8], [8]), ([4, 9], [4, 9]), ([10], [10])])
def spec_l8Same.B11 : List Nat := [0, 1, 0, 7, 15, 0, 32, 0, 224, 480, 1023, 2047]
theorem spec_l8Same.tab11 : rtab .any (opsOf Tryz.f69 11) = spec_l8Same.T11 := by kernel_rfl
theorem spec_l8Same.bits11 : waitsOk spec_l8Same.T11.2 spec_l8Same.B11 = true := by kernel_rfl
theorem spec_l8Same.calls (k : Nat) : ∀ (A0_0 : Option Addr) (c0_0 : Nat) (l0_0 : List (S69)) (A0_1 : Option Addr) (c0_1 : Nat) (l0_1 : List ByteArray) (A0_2 : Option Addr) (c0_2 : Nat) (l0_2 : List (S28)) (A1_0 : Option Addr) (c1_0 : Nat) (l1_0 : List (S69)) (A1_1 : Option Addr) (c1_1 : Nat) (l1_1 : List ByteArray) (A1_2 : Option Addr) (c1_2 : Nat) (l1_2 : List (S28)) (r : Bool) (w : World) (hr0_0 : Kd.C k69 w A0_0 l0_0.length l0_0) (hc0_0 : l0_0.length ≤ c0_0) (hr0_1 : Kd.C Kd.string w A0_1 l0_1.length l0_1) (hc0_1 : l0_1.length ≤ c0_1) (hr0_2 : Kd.C k28 w A0_2 l0_2.length l0_2) (hc0_2 : l0_2.length ≤ c0_2) (hr1_0 : Kd.C k69 w A1_0 l1_0.length l1_0) (hc1_0 : l1_0.length ≤ c1_0) (hr1_1 : Kd.C Kd.string w A1_1 l1_1.length l1_1) (hc1_1 : l1_1.length ≤ c1_1) (hr1_2 : Kd.C k28 w A1_2 l1_2.length l1_2) (hc1_2 : l1_2.length ≤ c1_2) (h : spec_l8Same.f k l0_0 l0_1 l0_2 l1_0 l1_1 l1_2 = some r),
  Calls Tryz.prog 69 #[.agg #[.slice A0_0 l0_0.length c0_0, .slice A0_1 l0_1.length c0_1, .slice A0_2 l0_2.length c0_2], .agg #[.slice A1_0 l1_0.length c1_0, .slice A1_1 l1_1.length c1_1, .slice A1_2 l1_2.length c1_2]] w fun e w' => e = .returned (.bool r) ∧ Below w.heap.size w w' := by
 induction k using Nat.strongRecOn with
 | _ k ih =>
 intro A0_0 c0_0 l0_0 A0_1 c0_1 l0_1 A0_2 c0_2 l0_2 A1_0 c1_0 l1_0 A1_1 c1_1 l1_1 A1_2 c1_2 l1_2 r w hr0_0 hc0_0 hr0_1 hc0_1 hr0_2 hc0_2 hr1_0 hc1_0 hr1_1 hc1_1 hr1_2 hc1_2 h
 cases k with
 | zero => exact absurd h (by simp [spec_l8Same.f])
 | succ k =>
 simp only [spec_l8Same.f] at h
 have hu28 := Tryz.underlying28
 have HR0_0 := ak hr0_0
 have HC0_0 := ak hc0_0
 clear hr0_0 hc0_0
 have HR0_1 := ak hr0_1
 have HC0_1 := ak hc0_1
 clear hr0_1 hc0_1
 have HR0_2 := ak hr0_2
 have HC0_2 := ak hc0_2
 clear hr0_2 hc0_2
 have HR1_0 := ak hr1_0
 have HC1_0 := ak hc1_0
 clear hr1_0 hc1_0
 have HR1_1 := ak hr1_1
 have HC1_1 := ak hc1_1
 clear hr1_1 hc1_1
 have HR1_2 := ak hr1_2
 have HC1_2 := ak hc1_2
 clear hr1_2 hc1_2
 have HB := ak (Below.refl w.heap.size w)
 have H : ((spec_FieldsSame.f k l0_0 l1_0).bind fun t800 => (if t800 = true then (if (l0_1.length : Int) = (l1_1.length : Int) then (spec_l8Same.j0 k ((l0_2.length : Int) != (l1_2.length : Int)) l0_0 l0_1 l0_2 l1_0 l1_1 l1_2) else (spec_l8Same.j0 k true l0_0 l0_1 l0_2 l1_0 l1_1 l1_2)) else (spec_l8Same.j0 k true l0_0 l0_1 l0_2 l1_0 l1_1 l1_2))) = some r := h
 clear h
 have HC3 := ak H
 clear H
 go_enter Tryz.func69, Tryz.ntmps69
 go_upto_region 1 with (first | (refine gG 2 ?_; refine bX HB 2 #[.slice A0_0 l0_0.length c0_0, .slice A0_1 l0_1.length c0_1, .slice A0_2 l0_2.length c0_2] 28 ?_; intro gb798 w4 BK798 GW798 hb; replace HB := bs HB hb; clear hb) | (refine gG 3 ?_; refine bY HB 3 #[.slice A1_0 l1_0.length c1_0, .slice A1_1 l1_1.length c1_1, .slice A1_2 l1_2.length c1_2] 28 ?_; intro gb799 w5 BK799 GW799 hg hb; have NB798_799 := nl_ BK798 hg; have NB799_798 := ng_ BK798 hg; replace BK798 := kb BK798 hb; replace HB := bz HB hb; clear hb hg))
 (try simp only [Act.put, l_a, l_b, l_c])
 go_cut [30] (fun v30 wc => ∃ (kq : Nat) (x30_2 : Bool), v30 = .bool x30_2 ∧ Aside0 (spec_l8Same.j0 kq x30_2 l0_0 l0_1 l0_2 l1_0 l1_1 l1_2 = some r) ∧ Aside0 (kq ≤ k) ∧ Aside0 (wc.heap[gb798]? = some (.cells #[(.slice A0_0 l0_0.length c0_0), (.slice A0_1 l0_1.length c0_1), (.slice A0_2 l0_2.length c0_2)] 28 (0, 0))) ∧ Aside0 (wc.heap[gb799]? = some (.cells #[(.slice A1_0 l1_0.length c1_0), (.slice A1_1 l1_1.length c1_1), (.slice A1_2 l1_2.length c1_2)] 28 (0, 0))) ∧ Aside0 (Below w.heap.size w wc))
 case first =>
  have H := HC3.out
  clear HC3
  replace H := bd H; obtain ⟨t800, A6, H⟩ := H; replace H := sb H
  rcases H with ⟨rfl, H⟩ | ⟨rfl, H⟩
  ·
   replace H := sp H
   rcases H with ⟨c8, H⟩ | ⟨c8, H⟩
   ·
    have c8b0 := beq_iff_eq.mpr c8
    have c8b1 := bne_eq_false_iff_eq.mpr c8
    have c8b2 : (l0_1.length == l1_1.length) = true := by first | simpa using c8 | (simp at c8 ⊢; omega)
    clear c8
    (first | rw [c8b0] | (simp only [i64_w, i32_w]; rw [c8b0]) | skip)
    have H' := ak H; clear H
    have hnb9 := NB798_799.out
    have hnc9 := NB799_798.out
    have z10 := cz3 BK798.out
    have z11 := cz3 BK799.out
    go_wp2_with (refine gA Tryz.func111 (spec_FieldsSame.calls (cu (Kd.C_below HR0_0.out HB.out)) HC0_0.out (cu (Kd.C_below HR1_0.out HB.out)) HC1_0.out A6.out) ?_; intro nd)
    go_meet
    case rel => exact ⟨_, _, rs, H', ⟨le_⟩, ⟨ub BK798.out⟩, ⟨ub BK799.out⟩, ⟨bb⟩⟩
   ·
    have c8b0 := beq_eq_false_iff_ne.mpr c8
    have c8b1 := bne_iff_ne.mpr c8
    have c8b2 : (l0_1.length == l1_1.length) = false := by first | simpa using c8 | (simp at c8 ⊢; omega)
    (first | rw [c8b0] | (simp only [i64_w, i32_w]; rw [c8b0]) | skip)
    have H' := ak H; clear H
    have hnb12 := NB798_799.out
    have hnc12 := NB799_798.out
    have z13 := cz3 BK798.out
    have z14 := cz3 BK799.out
    go_wp2_with (refine gA Tryz.func111 (spec_FieldsSame.calls (cu (Kd.C_below HR0_0.out HB.out)) HC0_0.out (cu (Kd.C_below HR1_0.out HB.out)) HC1_0.out A6.out) ?_; intro nd)
    go_meet
    case rel => exact ⟨_, _, rs, H', ⟨le_⟩, ⟨ub BK798.out⟩, ⟨ub BK799.out⟩, ⟨bb⟩⟩
  ·
   have H' := ak H; clear H
   have hnb15 := NB798_799.out
   have hnc15 := NB799_798.out
   have z16 := cz3 BK798.out
   have z17 := cz3 BK799.out
   go_wp2_with (refine gA Tryz.func111 (spec_FieldsSame.calls (cu (Kd.C_below HR0_0.out HB.out)) HC0_0.out (cu (Kd.C_below HR1_0.out HB.out)) HC1_0.out A6.out) ?_; intro nd)
   go_meet
   case rel => exact ⟨_, _, rs, H', ⟨le_⟩, ⟨ub BK798.out⟩, ⟨ub BK799.out⟩, ⟨bb⟩⟩
 case rest =>
  clear HC3
  obtain ⟨kq, x30_2, rfl, HA, HJ2, BK798, BK799, HB⟩ := hcut
  cases kq with
  | zero => exact zz HA.out
  | succ kj2 =>
   obtain ⟨H⟩ := HA
   simp only [spec_l8Same.j0] at H
   replace H := sb H
   rcases H with ⟨rfl, H⟩ | ⟨rfl, H⟩
   ·
    obtain rfl := s1 H
    go_wp2
    go_ret
    exact ⟨er, bb⟩
   ·
    have H' := ak H; clear H
    go_wp2
    go_loopg [5] kj2 (fun kq v5 w' => ∃ (x5_2 : Int), v5 = .int .i64 x5_2 ∧ Aside0 (spec_l8Same.l0 kq x5_2 l0_0 l0_1 l0_2 l1_0 l1_1 l1_2 = some r) ∧ Aside0 (kq ≤ kj2) ∧ Aside0 (w'.heap[gb798]? = some (.cells #[(.slice A0_0 l0_0.length c0_0), (.slice A0_1 l0_1.length c0_1), (.slice A0_2 l0_2.length c0_2)] 28 (0, 0))) ∧ Aside0 (w'.heap[gb799]? = some (.cells #[(.slice A1_0 l1_0.length c1_0), (.slice A1_1 l1_1.length c1_1), (.slice A1_2 l1_2.length c1_2)] 28 (0, 0))) ∧ Aside0 (Below w.heap.size w w'))
    case atStart => exact ⟨_, rs, H', ⟨Nat.le_refl _⟩, ⟨ub BK798.out⟩, ⟨ub BK799.out⟩, ⟨bb⟩⟩
    case round =>
     clear H'
     obtain ⟨x5_2, rfl, HA, HK2, BK798, BK799, HB⟩ := hrel
     cases gk with
     | zero => exact zz HA.out
     | succ k2 =>
      obtain ⟨H⟩ := HA
      simp only [spec_l8Same.l0] at H
      replace H := sd H
      rcases H with ⟨c19b0, H⟩ | ⟨c19b0, H⟩
      ·
       replace H := nde H; obtain ⟨c20b0, H⟩ := H; replace H := nde H; obtain ⟨c21b0, H⟩ := H; replace H := sq H
       rcases H with ⟨c22b0, c22b1, H⟩ | ⟨c22, c22b0, c22b1, H⟩
       ·
        have H' := ak H; clear H
        have hnb23 := NB798_799.out
        have hnc23 := NB799_798.out
        have z24 := cz3 BK798.out
        try go_wp2
        replace BK798 := ak (blk_drew BK798.out)
        replace BK799 := ak (blk_drew BK799.out)
        replace HB := ak (below_drew1 HB.out)
        have p801 := zi x5_2
        have q801 := zj x5_2 l0_1.length
        obtain ⟨ad801, e801, hx801_0⟩ := Kd.at_string HR0_1.out x5_2 p801 q801
        have hw801_0 := hx801_0
        cases e801
        replace hx801_0 := cl HB.out hx801_0
        replace p801 := eq_true p801
        replace q801 := eq_true q801
        have p802 := zi x5_2
        have q802 := zj x5_2 l1_1.length
        obtain ⟨ad802, e802, hx802_0⟩ := Kd.at_string HR1_1.out x5_2 p802 q802
        have hw802_0 := hx802_0
        cases e802
        replace hx802_0 := cl HB.out hx802_0
        replace p802 := eq_true p802
        replace q802 := eq_true q802
        refine ro [] [0, 2, 5, 7, 1, 3, 4, 6, 8, 9, 10] (fun w' => w'.cell? ⟨gb798, 0, none⟩ = some (.slice A0_0 l0_0.length c0_0) ∧ w'.cell? ⟨gb798, 1, none⟩ = some (.slice (some ad801) l0_1.length c0_1) ∧ w'.cell? ⟨gb798, 2, none⟩ = some (.slice A0_2 l0_2.length c0_2) ∧ w'.cell? ⟨gb799, 0, none⟩ = some (.slice A1_0 l1_0.length c1_0) ∧ w'.cell? ⟨gb799, 1, none⟩ = some (.slice (some ad802) l1_1.length c1_1) ∧ w'.cell? ⟨gb799, 2, none⟩ = some (.slice A1_2 l1_2.length c1_2) ∧ w'.cell? (ad801.add (x5_2).toNat) = some (.string (rdOf ByteArray.empty l0_1 x5_2)) ∧ w'.cell? (ad802.add (x5_2).toNat) = some (.string (rdOf ByteArray.empty l1_1 x5_2))) ⟨(blk_cell BK798.out 0).trans rfl, (blk_cell BK798.out 1).trans rfl, (blk_cell BK798.out 2).trans rfl, (blk_cell BK799.out 0).trans rfl, (blk_cell BK799.out 1).trans rfl, (blk_cell BK799.out 2).trans rfl, ((HB.out.cell (World.block_lt_of_cell? w _ hw801_0)).trans hw801_0), ((HB.out.cell (World.block_lt_of_cell? w _ hw802_0)).trans hw802_0)⟩ ?_
        generalize wr.drew = w25 at BK798 BK799 HB hx801_0 hx802_0 ⊢
        repeat refine lo_ ?_
        refine on ?_
        try go_wp2
        go_roundg k2
        case measure => exact kl
        case rel => exact ⟨_, rs, H', ⟨kl⟩, ⟨ub BK798.out⟩, ⟨ub BK799.out⟩, ⟨bb⟩⟩
       ·
        obtain rfl := s1 H
        have hnb26 := NB798_799.out
        have hnc26 := NB799_798.out
        have z27 := cz3 BK798.out
        try go_wp2
        replace BK798 := ak (blk_drew BK798.out)
        replace BK799 := ak (blk_drew BK799.out)
        replace HB := ak (below_drew1 HB.out)
        have p801 := zi x5_2
        have q801 := zj x5_2 l0_1.length
        obtain ⟨ad801, e801, hx801_0⟩ := Kd.at_string HR0_1.out x5_2 p801 q801
        have hw801_0 := hx801_0
        cases e801
        replace hx801_0 := cl HB.out hx801_0
        replace p801 := eq_true p801
        replace q801 := eq_true q801
        have p802 := zi x5_2
        have q802 := zj x5_2 l1_1.length
        obtain ⟨ad802, e802, hx802_0⟩ := Kd.at_string HR1_1.out x5_2 p802 q802
        have hw802_0 := hx802_0
        cases e802
        replace hx802_0 := cl HB.out hx802_0
        replace p802 := eq_true p802
        replace q802 := eq_true q802
        refine ro [] [0, 2, 5, 7, 1, 3, 4, 6, 8, 9, 10] (fun w' => w'.cell? ⟨gb798, 0, none⟩ = some (.slice A0_0 l0_0.length c0_0) ∧ w'.cell? ⟨gb798, 1, none⟩ = some (.slice (some ad801) l0_1.length c0_1) ∧ w'.cell? ⟨gb798, 2, none⟩ = some (.slice A0_2 l0_2.length c0_2) ∧ w'.cell? ⟨gb799, 0, none⟩ = some (.slice A1_0 l1_0.length c1_0) ∧ w'.cell? ⟨gb799, 1, none⟩ = some (.slice (some ad802) l1_1.length c1_1) ∧ w'.cell? ⟨gb799, 2, none⟩ = some (.slice A1_2 l1_2.length c1_2) ∧ w'.cell? (ad801.add (x5_2).toNat) = some (.string (rdOf ByteArray.empty l0_1 x5_2)) ∧ w'.cell? (ad802.add (x5_2).toNat) = some (.string (rdOf ByteArray.empty l1_1 x5_2))) ⟨(blk_cell BK798.out 0).trans rfl, (blk_cell BK798.out 1).trans rfl, (blk_cell BK798.out 2).trans rfl, (blk_cell BK799.out 0).trans rfl, (blk_cell BK799.out 1).trans rfl, (blk_cell BK799.out 2).trans rfl, ((HB.out.cell (World.block_lt_of_cell? w _ hw801_0)).trans hw801_0), ((HB.out.cell (World.block_lt_of_cell? w _ hw802_0)).trans hw802_0)⟩ ?_
        generalize wr.drew = w28 at BK798 BK799 HB hx801_0 hx802_0 ⊢
        repeat refine lo_ ?_
        refine on ?_
        try go_wp2
        go_ret
        exact ⟨er, bb⟩
      ·
       have H' := ak H; clear H
       have hnb29 := NB798_799.out
       have hnc29 := NB799_798.out
       have z30 := cz3 BK798.out
       go_wp2
       go_loopg [6] k2 (fun kq v6 w' => ∃ (x6_3 : Int), v6 = .int .i64 x6_3 ∧ Aside0 (spec_l8Same.l1 kq x6_3 l0_0 l0_1 l0_2 l1_0 l1_1 l1_2 = some r) ∧ Aside0 (kq ≤ k2) ∧ Aside0 (w'.heap[gb798]? = some (.cells #[(.slice A0_0 l0_0.length c0_0), (.slice A0_1 l0_1.length c0_1), (.slice A0_2 l0_2.length c0_2)] 28 (0, 0))) ∧ Aside0 (w'.heap[gb799]? = some (.cells #[(.slice A1_0 l1_0.length c1_0), (.slice A1_1 l1_1.length c1_1), (.slice A1_2 l1_2.length c1_2)] 28 (0, 0))) ∧ Aside0 (Below w.heap.size w w'))
       case atStart => exact ⟨_, rs, H', ⟨Nat.le_refl _⟩, ⟨ub BK798.out⟩, ⟨ub BK799.out⟩, ⟨bb⟩⟩
       case round =>
        clear H'
        try clear c19b0
        obtain ⟨x6_3, rfl, HA, HK3, BK798, BK799, HB⟩ := hrel
        cases gk with
        | zero => exact zz HA.out
        | succ k3 =>
         obtain ⟨H⟩ := HA
         simp only [spec_l8Same.l1] at H
         replace H := sd H
         rcases H with ⟨c31b0, H⟩ | ⟨c31b0, H⟩
         ·
          replace H := nde H; obtain ⟨c32b0, H⟩ := H; replace H := nde H; obtain ⟨c33b0, H⟩ := H; replace H := bd H; obtain ⟨t805, A34, H⟩ := H; replace H := sb H
          rcases H with ⟨rfl, H⟩ | ⟨rfl, H⟩
          ·
           have H' := ak H; clear H
           have hnb36 := NB798_799.out
           have hnc36 := NB799_798.out
           have z37 := cz3 BK798.out
           try go_wp2
           replace BK798 := ak (blk_drew BK798.out)
           replace BK799 := ak (blk_drew BK799.out)
           replace HB := ak (below_drew1 HB.out)
           have p803 := zi x6_3
           have q803 := zj x6_3 l0_2.length
           obtain ⟨ad803, A803_0, c803_0, A803_1, c803_1, A803_2, c803_2, e803, hx803_0, hx803_1, hx803_2, hl803_0, hi803_0, hl803_1, hi803_1, hl803_2, hi803_2⟩ := at_T28 HR0_2.out x6_3 p803 q803
           have hw803_2 := hx803_2
           have hw803_1 := hx803_1
           have hw803_0 := hx803_0
           cases e803
           replace hx803_0 := cl HB.out hx803_0
           replace hx803_1 := cl HB.out hx803_1
           replace hx803_2 := cl HB.out hx803_2
           have HR803_0 := ak hi803_0
           have HC803_0 := ak hl803_0
           clear hi803_0 hl803_0
           have HR803_1 := ak hi803_1
           have HC803_1 := ak hl803_1
           clear hi803_1 hl803_1
           have HR803_2 := ak hi803_2
           have HC803_2 := ak hl803_2
           clear hi803_2 hl803_2
           replace p803 := eq_true p803
           replace q803 := eq_true q803
           have p804 := zi x6_3
           have q804 := zj x6_3 l1_2.length
           obtain ⟨ad804, A804_0, c804_0, A804_1, c804_1, A804_2, c804_2, e804, hx804_0, hx804_1, hx804_2, hl804_0, hi804_0, hl804_1, hi804_1, hl804_2, hi804_2⟩ := at_T28 HR1_2.out x6_3 p804 q804
           have hw804_2 := hx804_2
           have hw804_1 := hx804_1
           have hw804_0 := hx804_0
           cases e804
           replace hx804_0 := cl HB.out hx804_0
           replace hx804_1 := cl HB.out hx804_1
           replace hx804_2 := cl HB.out hx804_2
           have HR804_0 := ak hi804_0
           have HC804_0 := ak hl804_0
           clear hi804_0 hl804_0
           have HR804_1 := ak hi804_1
           have HC804_1 := ak hl804_1
           clear hi804_1 hl804_1
           have HR804_2 := ak hi804_2
           have HC804_2 := ak hl804_2
           clear hi804_2 hl804_2
           replace p804 := eq_true p804
           replace q804 := eq_true q804
           refine ro [10] [0, 2, 5, 7, 1, 3, 4, 6, 8, 9, 10, 11] (fun w' => w'.cell? ⟨gb798, 0, none⟩ = some (.slice A0_0 l0_0.length c0_0) ∧ w'.cell? ⟨gb798, 1, none⟩ = some (.slice A0_1 l0_1.length c0_1) ∧ w'.cell? ⟨gb798, 2, none⟩ = some (.slice (some ad803) l0_2.length c0_2) ∧ w'.cell? ⟨gb799, 0, none⟩ = some (.slice A1_0 l1_0.length c1_0) ∧ w'.cell? ⟨gb799, 1, none⟩ = some (.slice A1_1 l1_1.length c1_1) ∧ w'.cell? ⟨gb799, 2, none⟩ = some (.slice (some ad804) l1_2.length c1_2) ∧ w'.cell? (ad803.add ((x6_3).toNat * 3)) = some (.slice A803_0 ((rd_T28 l0_2 x6_3).f0).length c803_0) ∧ w'.cell? ⟨(ad803.add ((x6_3).toNat * 3)).block, (ad803.add ((x6_3).toNat * 3)).off + 1, none⟩ = some (.slice A803_1 ((rd_T28 l0_2 x6_3).f1).length c803_1) ∧ w'.cell? ⟨(ad803.add ((x6_3).toNat * 3)).block, (ad803.add ((x6_3).toNat * 3)).off + 2, none⟩ = some (.slice A803_2 ((rd_T28 l0_2 x6_3).f2).length c803_2) ∧ w'.cell? (ad804.add ((x6_3).toNat * 3)) = some (.slice A804_0 ((rd_T28 l1_2 x6_3).f0).length c804_0) ∧ w'.cell? ⟨(ad804.add ((x6_3).toNat * 3)).block, (ad804.add ((x6_3).toNat * 3)).off + 1, none⟩ = some (.slice A804_1 ((rd_T28 l1_2 x6_3).f1).length c804_1) ∧ w'.cell? ⟨(ad804.add ((x6_3).toNat * 3)).block, (ad804.add ((x6_3).toNat * 3)).off + 2, none⟩ = some (.slice A804_2 ((rd_T28 l1_2 x6_3).f2).length c804_2)) ⟨(blk_cell BK798.out 0).trans rfl, (blk_cell BK798.out 1).trans rfl, (blk_cell BK798.out 2).trans rfl, (blk_cell BK799.out 0).trans rfl, (blk_cell BK799.out 1).trans rfl, (blk_cell BK799.out 2).trans rfl, ((HB.out.cell (World.block_lt_of_cell? w _ hw803_0)).trans hw803_0), ((HB.out.cell (World.block_lt_of_cell? w _ hw803_1)).trans hw803_1), ((HB.out.cell (World.block_lt_of_cell? w _ hw803_2)).trans hw803_2), ((HB.out.cell (World.block_lt_of_cell? w _ hw804_0)).trans hw804_0), ((HB.out.cell (World.block_lt_of_cell? w _ hw804_1)).trans hw804_1), ((HB.out.cell (World.block_lt_of_cell? w _ hw804_2)).trans hw804_2)⟩ ?_
           generalize wr.drew = w38 at BK798 BK799 HB HR803_0 HR803_1 HR803_2 HR804_0 HR804_1 HR804_2 hx803_0 hx803_1 hx803_2 hx804_0 hx804_1 hx804_2 ⊢
           repeat refine lo_ ?_
           refine rB Tryz.func69 (ih k3 (by have := HJ2.out; have := HK2.out; have := HK3.out; omega) _ _ ((rd_T28 l0_2 x6_3).f0) _ _ ((rd_T28 l0_2 x6_3).f1) _ _ ((rd_T28 l0_2 x6_3).f2) _ _ ((rd_T28 l1_2 x6_3).f0) _ _ ((rd_T28 l1_2 x6_3).f1) _ _ ((rd_T28 l1_2 x6_3).f2) true _ (cu (Kd.C_below HR803_0.out HB.out)) HC803_0.out (cu (Kd.C_below HR803_1.out HB.out)) HC803_1.out (cu (Kd.C_below HR803_2.out HB.out)) HC803_2.out (cu (Kd.C_below HR804_0.out HB.out)) HC804_0.out (cu (Kd.C_below HR804_1.out HB.out)) HC804_1.out (cu (Kd.C_below HR804_2.out HB.out)) HC804_2.out A34.out) ?_
           intro w39 hb
           replace BK798 := kb BK798 hb
           replace BK799 := kb BK799 hb
           replace HB := bz HB hb
           clear hb
           refine ⟨⟨(blk_cell BK798.out 0).trans rfl, (blk_cell BK798.out 1).trans rfl, (blk_cell BK798.out 2).trans rfl, (blk_cell BK799.out 0).trans rfl, (blk_cell BK799.out 1).trans rfl, (blk_cell BK799.out 2).trans rfl, ((HB.out.cell (World.block_lt_of_cell? w _ hw803_0)).trans hw803_0), ((HB.out.cell (World.block_lt_of_cell? w _ hw803_1)).trans hw803_1), ((HB.out.cell (World.block_lt_of_cell? w _ hw803_2)).trans hw803_2), ((HB.out.cell (World.block_lt_of_cell? w _ hw804_0)).trans hw804_0), ((HB.out.cell (World.block_lt_of_cell? w _ hw804_1)).trans hw804_1), ((HB.out.cell (World.block_lt_of_cell? w _ hw804_2)).trans hw804_2)⟩, ?_⟩
           repeat refine lo_ ?_
           refine on ?_
           try go_wp2
           go_roundg k3
           case measure => exact kl
           case rel => exact ⟨_, rs, H', ⟨kl⟩, ⟨ub BK798.out⟩, ⟨ub BK799.out⟩, ⟨bb⟩⟩
          ·
           obtain rfl := s1 H
           have hnb40 := NB798_799.out
           have hnc40 := NB799_798.out
           have z41 := cz3 BK798.out
           try go_wp2
           replace BK798 := ak (blk_drew BK798.out)
           replace BK799 := ak (blk_drew BK799.out)
           replace HB := ak (below_drew1 HB.out)
           have p803 := zi x6_3
           have q803 := zj x6_3 l0_2.length
           obtain ⟨ad803, A803_0, c803_0, A803_1, c803_1, A803_2, c803_2, e803, hx803_0, hx803_1, hx803_2, hl803_0, hi803_0, hl803_1, hi803_1, hl803_2, hi803_2⟩ := at_T28 HR0_2.out x6_3 p803 q803
           have hw803_2 := hx803_2
           have hw803_1 := hx803_1
           have hw803_0 := hx803_0
           cases e803
           replace hx803_0 := cl HB.out hx803_0
           replace hx803_1 := cl HB.out hx803_1
           replace hx803_2 := cl HB.out hx803_2
           have HR803_0 := ak hi803_0
           have HC803_0 := ak hl803_0
           clear hi803_0 hl803_0
           have HR803_1 := ak hi803_1
           have HC803_1 := ak hl803_1
           clear hi803_1 hl803_1
           have HR803_2 := ak hi803_2
           have HC803_2 := ak hl803_2
           clear hi803_2 hl803_2
           replace p803 := eq_true p803
           replace q803 := eq_true q803
           have p804 := zi x6_3
           have q804 := zj x6_3 l1_2.length
           obtain ⟨ad804, A804_0, c804_0, A804_1, c804_1, A804_2, c804_2, e804, hx804_0, hx804_1, hx804_2, hl804_0, hi804_0, hl804_1, hi804_1, hl804_2, hi804_2⟩ := at_T28 HR1_2.out x6_3 p804 q804
           have hw804_2 := hx804_2
           have hw804_1 := hx804_1
           have hw804_0 := hx804_0
           cases e804
           replace hx804_0 := cl HB.out hx804_0
           replace hx804_1 := cl HB.out hx804_1
           replace hx804_2 := cl HB.out hx804_2
           have HR804_0 := ak hi804_0
           have HC804_0 := ak hl804_0
           clear hi804_0 hl804_0
           have HR804_1 := ak hi804_1
           have HC804_1 := ak hl804_1
           clear hi804_1 hl804_1
           have HR804_2 := ak hi804_2
           have HC804_2 := ak hl804_2
           clear hi804_2 hl804_2
           replace p804 := eq_true p804
           replace q804 := eq_true q804
           refine ro [10] [0, 2, 5, 7, 1, 3, 4, 6, 8, 9, 10, 11] (fun w' => w'.cell? ⟨gb798, 0, none⟩ = some (.slice A0_0 l0_0.length c0_0) ∧ w'.cell? ⟨gb798, 1, none⟩ = some (.slice A0_1 l0_1.length c0_1) ∧ w'.cell? ⟨gb798, 2, none⟩ = some (.slice (some ad803) l0_2.length c0_2) ∧ w'.cell? ⟨gb799, 0, none⟩ = some (.slice A1_0 l1_0.length c1_0) ∧ w'.cell? ⟨gb799, 1, none⟩ = some (.slice A1_1 l1_1.length c1_1) ∧ w'.cell? ⟨gb799, 2, none⟩ = some (.slice (some ad804) l1_2.length c1_2) ∧ w'.cell? (ad803.add ((x6_3).toNat * 3)) = some (.slice A803_0 ((rd_T28 l0_2 x6_3).f0).length c803_0) ∧ w'.cell? ⟨(ad803.add ((x6_3).toNat * 3)).block, (ad803.add ((x6_3).toNat * 3)).off + 1, none⟩ = some (.slice A803_1 ((rd_T28 l0_2 x6_3).f1).length c803_1) ∧ w'.cell? ⟨(ad803.add ((x6_3).toNat * 3)).block, (ad803.add ((x6_3).toNat * 3)).off + 2, none⟩ = some (.slice A803_2 ((rd_T28 l0_2 x6_3).f2).length c803_2) ∧ w'.cell? (ad804.add ((x6_3).toNat * 3)) = some (.slice A804_0 ((rd_T28 l1_2 x6_3).f0).length c804_0) ∧ w'.cell? ⟨(ad804.add ((x6_3).toNat * 3)).block, (ad804.add ((x6_3).toNat * 3)).off + 1, none⟩ = some (.slice A804_1 ((rd_T28 l1_2 x6_3).f1).length c804_1) ∧ w'.cell? ⟨(ad804.add ((x6_3).toNat * 3)).block, (ad804.add ((x6_3).toNat * 3)).off + 2, none⟩ = some (.slice A804_2 ((rd_T28 l1_2 x6_3).f2).length c804_2)) ⟨(blk_cell BK798.out 0).trans rfl, (blk_cell BK798.out 1).trans rfl, (blk_cell BK798.out 2).trans rfl, (blk_cell BK799.out 0).trans rfl, (blk_cell BK799.out 1).trans rfl, (blk_cell BK799.out 2).trans rfl, ((HB.out.cell (World.block_lt_of_cell? w _ hw803_0)).trans hw803_0), ((HB.out.cell (World.block_lt_of_cell? w _ hw803_1)).trans hw803_1), ((HB.out.cell (World.block_lt_of_cell? w _ hw803_2)).trans hw803_2), ((HB.out.cell (World.block_lt_of_cell? w _ hw804_0)).trans hw804_0), ((HB.out.cell (World.block_lt_of_cell? w _ hw804_1)).trans hw804_1), ((HB.out.cell (World.block_lt_of_cell? w _ hw804_2)).trans hw804_2)⟩ ?_
           generalize wr.drew = w42 at BK798 BK799 HB HR803_0 HR803_1 HR803_2 HR804_0 HR804_1 HR804_2 hx803_0 hx803_1 hx803_2 hx804_0 hx804_1 hx804_2 ⊢
           repeat refine lo_ ?_
           refine rB Tryz.func69 (ih k3 (by have := HJ2.out; have := HK2.out; have := HK3.out; omega) _ _ ((rd_T28 l0_2 x6_3).f0) _ _ ((rd_T28 l0_2 x6_3).f1) _ _ ((rd_T28 l0_2 x6_3).f2) _ _ ((rd_T28 l1_2 x6_3).f0) _ _ ((rd_T28 l1_2 x6_3).f1) _ _ ((rd_T28 l1_2 x6_3).f2) false _ (cu (Kd.C_below HR803_0.out HB.out)) HC803_0.out (cu (Kd.C_below HR803_1.out HB.out)) HC803_1.out (cu (Kd.C_below HR803_2.out HB.out)) HC803_2.out (cu (Kd.C_below HR804_0.out HB.out)) HC804_0.out (cu (Kd.C_below HR804_1.out HB.out)) HC804_1.out (cu (Kd.C_below HR804_2.out HB.out)) HC804_2.out A34.out) ?_
           intro w43 hb
           replace BK798 := kb BK798 hb
           replace BK799 := kb BK799 hb
           replace HB := bz HB hb
           clear hb
           refine ⟨⟨(blk_cell BK798.out 0).trans rfl, (blk_cell BK798.out 1).trans rfl, (blk_cell BK798.out 2).trans rfl, (blk_cell BK799.out 0).trans rfl, (blk_cell BK799.out 1).trans rfl, (blk_cell BK799.out 2).trans rfl, ((HB.out.cell (World.block_lt_of_cell? w _ hw803_0)).trans hw803_0), ((HB.out.cell (World.block_lt_of_cell? w _ hw803_1)).trans hw803_1), ((HB.out.cell (World.block_lt_of_cell? w _ hw803_2)).trans hw803_2), ((HB.out.cell (World.block_lt_of_cell? w _ hw804_0)).trans hw804_0), ((HB.out.cell (World.block_lt_of_cell? w _ hw804_1)).trans hw804_1), ((HB.out.cell (World.block_lt_of_cell? w _ hw804_2)).trans hw804_2)⟩, ?_⟩
           repeat refine lo_ ?_
           refine on ?_
           try go_wp2
           go_ret
           exact ⟨er, bb⟩
         ·
          obtain rfl := s1 H
          have hnb44 := NB798_799.out
          have hnc44 := NB799_798.out
          have z45 := cz3 BK798.out
          go_wp2
          go_ret
          exact ⟨er, bb⟩
end Go.Proofs.YtncdadcmghglkaaGreatDoor.PFnPartSame
