/- Printed walks; conditions: those in each statement. -/
import Derived.Test.YtncdadcmghglkaaGreatDoorVFnExactCountPartsQt
import Derived.Test.YtncdadcmghglkaaGreatDoorVFnExactCountPartsYt
import Derived.Test.YtncdadcmghglkaaGreatDoorPFnExactCountPartsx0
import Derived.Test.YtncdadcmghglkaaGreatDoorPFnExactCountPartsx11
import Derived.Test.YtncdadcmghglkaaGreatDoorPFnExactCountPartsx13
import Derived.Test.YtncdadcmghglkaaGreatDoorPFnExactCountPartsx14
import Derived.Test.YtncdadcmghglkaaGreatDoorPFnExactCountPartsx15
-- short
-- dense
-- sq
namespace Go.Proofs.YtncdadcmghglkaaGreatDoor.PFnExactCountParts
open Go.RowKit Go.Proofs.YtncdadcmghglkaaGreatDoor.X Go.Proofs.YtncdadcmghglkaaGreatDoorW.PrintWords Go.Proofs.YtncdadcmghglkaaGreatDoorW.PrintLast Go.Proofs.YtncdadcmghglkaaGreatDoorW.PrintMore
attribute [local go_sem] max2_int min2_int max_two min_two max_three min_three max_four min_four   -- for this text's walks alone
set_option linter.unusedVariables false
set_option linter.unusedSimpArgs false
mutual
def impl_KindValid.j0 : Nat → Bool → ByteArray → ByteArray → List (S69) → Option (Bool)
 | 0, _, _, _, _ => none
 | k + 1, x20, x500000, x500001, x500002 => if x20 = true then (some false) else (impl_KindValid.l0 k x500002 (x500002.length : Int) 0 x500000 x500001 x500002)
def impl_KindValid.l0 : Nat → List (S69) → Int → Int → ByteArray → ByteArray → List (S69) → Option (Bool)
 | 0, _, _, _, _, _, _ => none
 | k + 1, x22, x23, x24, x500000, x500001, x500002 => if x24 < x23 then (if 0 ≤ x24 then (if x24 < (x22.length : Int) then ((impl_isSmallName.f k ((rd_T69 x22 x24).f0)).bind fun t505 => (if t505 = true then ((impl_TextValid.f k ((rd_T69 x22 x24).f1)).bind fun t506 => (if t506 = true then (if (((rd_T69 x22 x24).f1).size : Int) > 40 then (some false) else (if x24 ≤ (x500002.length : Int) then ((impl_fieldPlace.f k (x500002.take (x24 : Int).toNat) ((rd_T69 x22 x24).f0)).bind fun t511 => (if t511 ≥ 0 then (some false) else (impl_KindValid.l0 k x22 x23 (wrap64 (x24 + 1)) x500000 x500001 x500002))) else (none))) else (some false))) else (some false))) else (none)) else (none)) else ((impl_kindText.f k x500000 x500001 x500002).bind fun t502 => (some (decide ((t502.size : Int) ≤ 150))))
end
def impl_KindValid.f (k : Nat) (a0_0 : ByteArray) (a0_1 : ByteArray) (l0_2 : List (S69)) : Option (Bool) := (impl_isSmallName.f k a0_0).bind fun t500 => (if t500 = true then ((impl_isSmallName.f k a0_1).bind fun t501 => (if t501 = true then (impl_KindValid.j0 k (decide ((l0_2.length : Int) > 4)) a0_0 a0_1 l0_2) else (impl_KindValid.j0 k true a0_0 a0_1 l0_2))) else (impl_KindValid.j0 k true a0_0 a0_1 l0_2))
def impl_KindValid.T6 : Bool × List (List Nat × List Nat) := (true, [([], []), ([0], [0]), ([1], [1]), ([2], [2]), ([3, 2], [3]), ([4], [4]), ([5, 4], [4, 5]), ([6, 4, 4], [4, 6]), ([7, 4], [4, 7]), ([4, 8], [4, 8]), ([9, 7], [9]), ([10], [10]), ([11, 10], [10, 11]), ([12, 10], [10, 12]), ([13, 10], [10, 13]), ([10, 14], [10, 14]), ([15, 10], [15]), ([16], [16]), ([17, 16], [16, 17]), ([16], [16]), ([18, 19, 16], [16, 18, 19]), ([16], [16]), ([21, 16], [16, 21]), ([20, 22, 16, 16], [16, 20, 22]), ([23, 16], [16, 23]), ([16, 24], [16, 24])])
def impl_KindValid.B6 : List Nat := [0, 1, 3, 7, 15, 31, 63, 127, 255, 511, 1023, 2047, 4095, 8191, 16383, 32767, 65535, 131071, 262143, 131071, 1048575, 131071, 2228223, 8388607, 16777215, 33554431]
theorem impl_KindValid.tab6 : rtab .any (opsOf Tryz.f95 6) = impl_KindValid.T6 := by kernel_rfl
theorem impl_KindValid.bits6 : waitsOk impl_KindValid.T6.2 impl_KindValid.B6 = true := by kernel_rfl
set_option maxHeartbeats 8000000 in
set_option maxRecDepth 100000 in
theorem impl_KindValid.calls (k : Nat) (a0_0 : ByteArray) (a0_1 : ByteArray) (A0_2 : Option Addr) (c0_2 : Nat) (l0_2 : List (S69)) (r : Bool) (w : World) (hr0_2 : Kd.C k69 w A0_2 l0_2.length l0_2) (hc0_2 : l0_2.length ≤ c0_2) (h : impl_KindValid.f k a0_0 a0_1 l0_2 = some r) :
  Calls Tryz.prog 95 #[.agg #[.string a0_0, .string a0_1, .slice A0_2 l0_2.length c0_2]] w fun e w' => e = .returned (.bool r) ∧ Below w.heap.size w w' := by
 have hu61 := Tryz.underlying61
 have hu69 := Tryz.underlying69
 have HR0_2 := ak hr0_2
 have HC0_2 := ak hc0_2
 clear hr0_2 hc0_2
 have HB := ak (Below.refl w.heap.size w)
 have H : ((impl_isSmallName.f k a0_0).bind fun t500 => (if t500 = true then ((impl_isSmallName.f k a0_1).bind fun t501 => (if t501 = true then (impl_KindValid.j0 k (decide ((l0_2.length : Int) > 4)) a0_0 a0_1 l0_2) else (impl_KindValid.j0 k true a0_0 a0_1 l0_2))) else (impl_KindValid.j0 k true a0_0 a0_1 l0_2))) = some r := h
 clear h
 have HC2 := ak H
 clear H
 go_enter Tryz.func95, Tryz.ntmps95
 go_upto_region 1 with (first | (refine gate_dst (N := 1) rfl ?_; (try (refine gate_guard (by rfl) ?_; dsimp only)); refine bE 1 #[.string a0_0, .string a0_1, .slice A0_2 l0_2.length c0_2] 61 ?_; intro gb499 hg w3 hbox hb; have BK499 := ak (hbox); have GW499 := ge_ HB hg; have GE499 := ge_ HB hg; replace HB := bs HB hb; clear hb hbox hg))
 (try simp only [Act.put, l_a, l_b, l_c])
 go_cut [20] (fun v20 wc => ∃ (kq : Nat) (x20_1 : Bool), v20 = .bool x20_1 ∧ Aside0 (impl_KindValid.j0 kq x20_1 a0_0 a0_1 l0_2 = some r) ∧ Aside0 (kq ≤ k) ∧ Aside0 (wc.heap[gb499]? = some (.cells #[.string a0_0, .string a0_1, (.slice A0_2 l0_2.length c0_2)] 61 (0, 0))) ∧ Aside0 (Below w.heap.size w wc))
 case first =>
  have H := HC2.out
  clear HC2
  replace H := bd H; obtain ⟨t500, A4, H⟩ := H; replace H := sb H
  rcases H with ⟨rfl, H⟩ | ⟨rfl, H⟩
  ·
   replace H := bd H; obtain ⟨t501, A6, H⟩ := H; replace H := sb H
   rcases H with ⟨rfl, H⟩ | ⟨rfl, H⟩
   ·
    have H' := ak H; clear H
    obtain ⟨hcz8_0, hcz8_1, hcz8_2, hfz8_0, hfz8_1, hfz8_2⟩ := cz3 BK499.out
    go_wp2_with (first | (refine gL 136 7 Tryz.func136 #[.string a0_0] ?_; (with_reducible refine (impl_isSmallName.calls k a0_0 true _ A4.out).mono ?_); rintro e w9 ⟨rfl, hb⟩; refine ⟨_, rfl, ?_⟩; replace BK499 := kb BK499 hb; replace HB := ak (below_step bb hb); (try clear hb); obtain ⟨hcz10_0, hcz10_1, hcz10_2, hfz10_0, hfz10_1, hfz10_2⟩ := cz3 BK499.out) | (go_at_call 136; (with_reducible refine (impl_isSmallName.calls k a0_1 true _ A6.out).mono ?_); rintro e w11 ⟨rfl, hb⟩; replace BK499 := kb BK499 hb; replace HB := ak (below_step bb hb); (try clear hb); obtain ⟨hcz12_0, hcz12_1, hcz12_2, hfz12_0, hfz12_1, hfz12_2⟩ := cz3 BK499.out))
    go_meet
    case rel => exact ⟨_, (decide ((l0_2.length : Int) > 4)), rs, H', ⟨le_⟩, ⟨ub BK499.out⟩, ⟨bb⟩⟩
   ·
    have H' := ak H; clear H
    obtain ⟨hcz13_0, hcz13_1, hcz13_2, hfz13_0, hfz13_1, hfz13_2⟩ := cz3 BK499.out
    go_wp2_with (first | (refine gL 136 7 Tryz.func136 #[.string a0_0] ?_; (with_reducible refine (impl_isSmallName.calls k a0_0 true _ A4.out).mono ?_); rintro e w14 ⟨rfl, hb⟩; refine ⟨_, rfl, ?_⟩; replace BK499 := kb BK499 hb; replace HB := ak (below_step bb hb); (try clear hb); obtain ⟨hcz15_0, hcz15_1, hcz15_2, hfz15_0, hfz15_1, hfz15_2⟩ := cz3 BK499.out) | (go_at_call 136; (with_reducible refine (impl_isSmallName.calls k a0_1 false _ A6.out).mono ?_); rintro e w16 ⟨rfl, hb⟩; replace BK499 := kb BK499 hb; replace HB := ak (below_step bb hb); (try clear hb)))
    go_meet
    case rel => exact ⟨_, (true), rs, H', ⟨le_⟩, ⟨ub BK499.out⟩, ⟨bb⟩⟩
  ·
   have H' := ak H; clear H
   obtain ⟨hcz17_0, hcz17_1, hcz17_2, hfz17_0, hfz17_1, hfz17_2⟩ := cz3 BK499.out
   go_wp2_with (first | (refine gL 136 7 Tryz.func136 #[.string a0_0] ?_; (with_reducible refine (impl_isSmallName.calls k a0_0 false _ A4.out).mono ?_); rintro e w18 ⟨rfl, hb⟩; refine ⟨_, rfl, ?_⟩; replace BK499 := kb BK499 hb; replace HB := ak (below_step bb hb); (try clear hb)))
   go_meet
   case rel => exact ⟨_, (true), rs, H', ⟨le_⟩, ⟨ub BK499.out⟩, ⟨bb⟩⟩
 case rest =>
  clear HC2
  try clear c1
  try clear p2
  try clear c5
  try clear c7
  try clear c9
  try clear c13
  try clear hcz10_0
  try clear hcz10_1
  try clear hcz10_2
  try clear hcz12_0
  try clear hcz12_1
  try clear hcz12_2
  try clear hcz13_0
  try clear hcz13_1
  try clear hcz13_2
  try clear hcz15_0
  try clear hcz15_1
  try clear hcz15_2
  try clear hcz17_0
  try clear hcz17_1
  try clear hcz17_2
  try clear hcz8_0
  try clear hcz8_1
  try clear hcz8_2
  try clear hfz10_0
  try clear hfz10_1
  try clear hfz10_2
  try clear hfz12_0
  try clear hfz12_1
  try clear hfz12_2
  try clear hfz13_0
  try clear hfz13_1
  try clear hfz13_2
  try clear hfz15_0
  try clear hfz15_1
  try clear hfz15_2
  try clear hfz17_0
  try clear hfz17_1
  try clear hfz17_2
  try clear hfz8_0
  try clear hfz8_1
  try clear hfz8_2
  obtain ⟨kq, x20_1, rfl, HA, HJ1, BK499, HB⟩ := hcut
  cases kq with
  | zero => exact absurd HA.out (by simp [impl_KindValid.j0])
  | succ kj1 =>
   have H := HA.out
   clear HA
   simp only [impl_KindValid.j0] at H
   replace H := sb H
   rcases H with ⟨rfl, H⟩ | ⟨rfl, H⟩
   ·
    obtain rfl := Option.some.inj H
    go_wp2
    go_ret
    exact ⟨er, bb⟩
   ·
    have H' := ak H; clear H
    obtain ⟨hcz20_0, hcz20_1, hcz20_2, hfz20_0, hfz20_1, hfz20_2⟩ := cz3 BK499.out
    go_wp2
    go_loopg [24] kj1 (fun kq v24 w' => ∃ (x24_2 : Int), v24 = .int .i64 x24_2 ∧ Aside0 (impl_KindValid.l0 kq l0_2 (l0_2.length : Int) x24_2 a0_0 a0_1 l0_2 = some r) ∧ Aside0 (kq ≤ kj1) ∧ Aside0 (w'.heap[gb499]? = some (.cells #[.string a0_0, .string a0_1, (.slice A0_2 l0_2.length c0_2)] 61 (0, 0))) ∧ Aside0 (Below w.heap.size w w'))
    case atStart => exact ⟨(0), rs, H', ⟨Nat.le_refl _⟩, ⟨ub BK499.out⟩, ⟨bb⟩⟩
    case round =>
     clear H'
     try clear c1
     try clear p2
     try clear c5
     try clear c7
     try clear c9
     try clear c13
     try clear c19
     try clear hcz10_0
     try clear hcz10_1
     try clear hcz10_2
     try clear hcz12_0
     try clear hcz12_1
     try clear hcz12_2
     try clear hcz13_0
     try clear hcz13_1
     try clear hcz13_2
     try clear hcz15_0
     try clear hcz15_1
     try clear hcz15_2
     try clear hcz17_0
     try clear hcz17_1
     try clear hcz17_2
     try clear hcz20_0
     try clear hcz20_1
     try clear hcz20_2
     try clear hcz8_0
     try clear hcz8_1
     try clear hcz8_2
     try clear hfz10_0
     try clear hfz10_1
     try clear hfz10_2
     try clear hfz12_0
     try clear hfz12_1
     try clear hfz12_2
     try clear hfz13_0
     try clear hfz13_1
     try clear hfz13_2
     try clear hfz15_0
     try clear hfz15_1
     try clear hfz15_2
     try clear hfz17_0
     try clear hfz17_1
     try clear hfz17_2
     try clear hfz20_0
     try clear hfz20_1
     try clear hfz20_2
     try clear hfz8_0
     try clear hfz8_1
     try clear hfz8_2
     try clear p2
     obtain ⟨x24_2, rfl, HA, HK2, BK499, HB⟩ := hrel
     cases gk with
     | zero => exact absurd HA.out (by simp [impl_KindValid.l0])
     | succ k2 =>
      have H := HA.out
      clear HA
      simp only [impl_KindValid.l0] at H
      replace H := sd H
      rcases H with ⟨c21b0, H⟩ | ⟨c21b0, H⟩
      ·
       replace H := nde H; obtain ⟨c22b0, H⟩ := H; replace H := nde H; obtain ⟨c23b0, H⟩ := H; replace H := bd H; obtain ⟨t505, A24, H⟩ := H; replace H := sb H
       rcases H with ⟨rfl, H⟩ | ⟨rfl, H⟩
       ·
        replace H := bd H; obtain ⟨t506, A26, H⟩ := H; replace H := sb H
        rcases H with ⟨rfl, H⟩ | ⟨rfl, H⟩
        ·
         replace H := sp H
         rcases H with ⟨c28, H⟩ | ⟨c28, H⟩
         ·
          have c28b0 : decide (40 < (((rd_T69 l0_2 x24_2).f1).size : Int)) = true := decide_eq_true c28
          have c28b1 : decide (40 < ((rd_T69 l0_2 x24_2).f1).size) = true := decide_eq_true (by omega)
          clear c28
          obtain rfl := Option.some.inj H
          have p503 := zi x24_2
          have q503 := zj x24_2 l0_2.length
          obtain ⟨ad503, e503, hx503_0, hx503_1⟩ := at_T69 HR0_2.out x24_2 p503 q503
          cases e503
          replace hx503_0 := cl HB.out hx503_0
          replace hx503_1 := cl HB.out hx503_1
          replace p503 := eq_true p503
          replace q503 := eq_true q503
          try go_wp2_with (first | (refine gate_dst (N := 4) rfl ?_; (try (refine gate_guard (by rfl) ?_; dsimp only)); refine bE 4 #[.string (⟨#[]⟩ : ByteArray), .string (⟨#[]⟩ : ByteArray)] 69 ?_; intro gb504 hg w29 hbox hb; have BK504 := ak (hbox); have GW504 := ak ((by rw [hg]; exact (below_size bb) : w.heap.size ≤ gb504)); have GE504 := ak ((by rw [hg]; exact (below_size bb) : w.heap.size ≤ gb504)); have NB499_504 := ak ((by rw [hg]; exact Nat.ne_of_lt (blk_lt (ub BK499.out)) : gb499 ≠ gb504)); have NB504_499 := ak ((by rw [hg]; exact Nat.ne_of_gt (blk_lt (ub BK499.out)) : gb504 ≠ gb499)); replace BK499 := kb BK499 hb; replace HB := ak (below_step bb hb); clear hb hbox hg; have hnb30 := NB504_499.out; have hnc30 := NB499_504.out; obtain ⟨hcz31_0, hcz31_1, hfz31_0, hfz31_1⟩ := cz2 BK504.out))
          have n0_ : Aside0 (((w29.setCell ⟨gb504, 0, none⟩ (.string ((rd_T69 l0_2 x24_2).f0))).setCell ⟨gb504, 1, none⟩ (.string ((rd_T69 l0_2 x24_2).f1))).heap[gb499]? = some (.cells #[.string a0_0, .string a0_1, .slice (some ad503) l0_2.length c0_2] 61 (0, 0))) := ⟨by (with_reducible repeat (first | refine blk_drewN ?_ _ | refine blk_drew ?_ | refine blk_alloc ?_ _)); refine blk_far ?_ NB499_504.out _; (with_reducible repeat (first | refine blk_drewN ?_ _ | refine blk_drew ?_ | refine blk_alloc ?_ _)); refine blk_far ?_ NB499_504.out _; (with_reducible repeat (first | refine blk_drewN ?_ _ | refine blk_drew ?_ | refine blk_alloc ?_ _)); exact BK499.out⟩
          have n1_ : Aside0 (((w29.setCell ⟨gb504, 0, none⟩ (.string ((rd_T69 l0_2 x24_2).f0))).setCell ⟨gb504, 1, none⟩ (.string ((rd_T69 l0_2 x24_2).f1))).heap[gb504]? = some (.cells #[.string ((rd_T69 l0_2 x24_2).f0), .string ((rd_T69 l0_2 x24_2).f1)] 69 (0, 0))) := ⟨by (with_reducible repeat (first | refine blk_drewN ?_ _ | refine blk_drew ?_ | refine blk_alloc ?_ _)); refine blk_put (cs := #[.string ((rd_T69 l0_2 x24_2).f0), .string (⟨#[]⟩ : ByteArray)]) ?_ 1 _ rfl; (with_reducible repeat (first | refine blk_drewN ?_ _ | refine blk_drew ?_ | refine blk_alloc ?_ _)); refine blk_put (cs := #[.string (⟨#[]⟩ : ByteArray), .string (⟨#[]⟩ : ByteArray)]) ?_ 0 _ rfl; (with_reducible repeat (first | refine blk_drewN ?_ _ | refine blk_drew ?_ | refine blk_alloc ?_ _)); exact BK504.out⟩
          have n2_ : Aside0 (Below w.heap.size w ((w29.setCell ⟨gb504, 0, none⟩ (.string ((rd_T69 l0_2 x24_2).f0))).setCell ⟨gb504, 1, none⟩ (.string ((rd_T69 l0_2 x24_2).f1)))) := ⟨bb⟩
          (try clear BK499)
          (try clear BK504)
          (try clear HB)
          generalize ((w29.setCell ⟨gb504, 0, none⟩ (.string ((rd_T69 l0_2 x24_2).f0))).setCell ⟨gb504, 1, none⟩ (.string ((rd_T69 l0_2 x24_2).f1))) = w32 at n0_ n1_ n2_ ⊢
          have BK499 := n0_
          have BK504 := n1_
          have HB := n2_
          clear n0_ n1_ n2_
          replace BK499 := ak (blk_drew BK499.out)
          replace BK504 := ak (blk_drew BK504.out)
          replace HB := ak (below_drew1 HB.out)
          refine ro [2, 7] [0, 1, 2, 3, 4, 5, 6, 7, 8, 9, 10, 11, 12, 13, 14, 15, 16, 17, 18, 19, 20, 21, 22, 23, 24, 25] (fun w' => w'.cell? ⟨gb504, 0, none⟩ = some (.string ((rd_T69 l0_2 x24_2).f0)) ∧ w'.cell? ⟨gb504, 1, none⟩ = some (.string ((rd_T69 l0_2 x24_2).f1))) ⟨(blk_cell BK504.out 0).trans rfl, (blk_cell BK504.out 1).trans rfl⟩ ?_
          generalize w32.drew = w33 at BK499 BK504 HB ⊢
          repeat (first | (refine lk (v := ?_) (a' := ?_) (gk.trans rfl) rfl rfl ?_ ?_ ?_; rotate_left; (focus (rintro w' ⟨s0, s1⟩; go_simp; with_reducible rfl)); rotate_left; (focus (simp only [Act.put, l_a, l_b, l_c, i64_w, i32_w]; rfl))) | (refine lf (a' := ?_) (gk.trans rfl) rfl rfl ?_ ?_; rotate_left; (focus (simp only [Act.put, l_a, l_b, l_c, i64_w, i32_w]; rfl))))
          refine ld (N := some 31) (gk.trans rfl) rfl rfl (fun K hK => ?_)
          refine goes_ Tryz.func136 (by kernel_rfl) rfl #[.string ((rd_T69 l0_2 x24_2).f0)] (by rfl) rfl rfl ma ?_
          with_reducible refine (impl_isSmallName.calls k2 ((rd_T69 l0_2 x24_2).f0) true _ A24.out).mono ?_
          rintro e w34 ⟨rfl, hb⟩
          refine ⟨_, rfl, ?_⟩
          replace BK499 := kb BK499 hb
          replace BK504 := kb BK504 hb
          replace HB := ak (below_step bb hb)
          (try clear hb)
          refine hK.out _ _ ⟨(blk_cell BK504.out 0).trans rfl, (blk_cell BK504.out 1).trans rfl⟩ ?_
          clear hK K
          refine no (a' := ?_) ?_ ?_
          rotate_left
          ·
           show Act.put _ (some 31) _ = _
           simp only [Act.put, l_a, l_b, l_c, i64_w, i32_w]
           rfl
          repeat (first | (refine lk (v := ?_) (a' := ?_) (gk.trans rfl) rfl rfl ?_ ?_ ?_; rotate_left; (focus (rintro w' ⟨s0, s1⟩; go_simp; with_reducible rfl)); rotate_left; (focus (simp only [Act.put, l_a, l_b, l_c, i64_w, i32_w]; rfl))) | (refine lf (a' := ?_) (gk.trans rfl) rfl rfl ?_ ?_; rotate_left; (focus (simp only [Act.put, l_a, l_b, l_c, i64_w, i32_w]; rfl))))
          refine ld (N := some 36) (gk.trans rfl) rfl rfl (fun K hK => ?_)
          refine goes_ Tryz.func89 (by kernel_rfl) rfl #[.string ((rd_T69 l0_2 x24_2).f1)] (by rfl) rfl rfl ma ?_
          with_reducible refine (impl_TextValid.calls k2 ((rd_T69 l0_2 x24_2).f1) true _ A26.out).mono ?_
          rintro e w' ⟨rfl, ⟨nd, rfl⟩⟩
          refine ⟨_, rfl, ?_⟩
          refine hK.out _ _ ⟨(blk_cell BK504.out 0).trans rfl, (blk_cell BK504.out 1).trans rfl⟩ ?_
          clear hK K
          refine no (a' := ?_) ?_ ?_
          rotate_left
          ·
           show Act.put _ (some 36) _ = _
           simp only [Act.put, l_a, l_b, l_c, i64_w, i32_w]
           rfl
          repeat (first | (refine lk (v := ?_) (a' := ?_) (gk.trans rfl) rfl rfl ?_ ?_ ?_; rotate_left; (focus (rintro w' ⟨s0, s1⟩; go_simp; with_reducible rfl)); rotate_left; (focus (simp only [Act.put, l_a, l_b, l_c, i64_w, i32_w]; rfl))) | (refine lf (a' := ?_) (gk.trans rfl) rfl rfl ?_ ?_; rotate_left; (focus (simp only [Act.put, l_a, l_b, l_c, i64_w, i32_w]; rfl))))
          refine on ?_
          try go_wp2
          go_ret
          exact ⟨er, bb⟩
         ·
          have c28b0 : decide (40 < (((rd_T69 l0_2 x24_2).f1).size : Int)) = false := decide_eq_false c28
          have c28b1 : decide (40 < ((rd_T69 l0_2 x24_2).f1).size) = false := decide_eq_false (by omega)
          clear c28
          have c35b0 := eq_true (of_decide_eq_true (by assumption) : 0 ≤ x24_2)
          replace H := ne_ H; obtain ⟨c36b0, c36b1, H⟩ := H
          obtain ⟨y507, Ny507⟩ := nm (l0_2.take (x24_2 : Int).toNat)
          rw [← Ny507.out] at H
          (try rw [Option.bind_some] at H)
          replace H := bd H; obtain ⟨t511, A37, H⟩ := H; replace H := sp H
          rcases H with ⟨c38, H⟩ | ⟨c38, H⟩
          ·
           have c38b0 : decide (0 ≤ t511) = true := decide_eq_true c38
           clear c38
           obtain rfl := Option.some.inj H
           have p503 := zi x24_2
           have q503 := zj x24_2 l0_2.length
           obtain ⟨ad503, e503, hx503_0, hx503_1⟩ := at_T69 HR0_2.out x24_2 p503 q503
           cases e503
           replace hx503_0 := cl HB.out hx503_0
           replace hx503_1 := cl HB.out hx503_1
           replace p503 := eq_true p503
           replace q503 := eq_true q503
           try go_wp2_with (first | (refine gate_dst (N := 4) rfl ?_; (try (refine gate_guard (by rfl) ?_; dsimp only)); refine bE 4 #[.string (⟨#[]⟩ : ByteArray), .string (⟨#[]⟩ : ByteArray)] 69 ?_; intro gb504 hg w39 hbox hb; have BK504 := ak (hbox); have GW504 := ak ((by rw [hg]; exact (below_size bb) : w.heap.size ≤ gb504)); have GE504 := ak ((by rw [hg]; exact (below_size bb) : w.heap.size ≤ gb504)); have NB499_504 := ak ((by rw [hg]; exact Nat.ne_of_lt (blk_lt (ub BK499.out)) : gb499 ≠ gb504)); have NB504_499 := ak ((by rw [hg]; exact Nat.ne_of_gt (blk_lt (ub BK499.out)) : gb504 ≠ gb499)); replace BK499 := kb BK499 hb; replace HB := ak (below_step bb hb); clear hb hbox hg; have hnb40 := NB504_499.out; have hnc40 := NB499_504.out; obtain ⟨hcz41_0, hcz41_1, hfz41_0, hfz41_1⟩ := cz2 BK504.out))
           have n0_ : Aside0 (((w39.setCell ⟨gb504, 0, none⟩ (.string ((rd_T69 l0_2 x24_2).f0))).setCell ⟨gb504, 1, none⟩ (.string ((rd_T69 l0_2 x24_2).f1))).heap[gb499]? = some (.cells #[.string a0_0, .string a0_1, .slice (some ad503) l0_2.length c0_2] 61 (0, 0))) := ⟨by (with_reducible repeat (first | refine blk_drewN ?_ _ | refine blk_drew ?_ | refine blk_alloc ?_ _)); refine blk_far ?_ NB499_504.out _; (with_reducible repeat (first | refine blk_drewN ?_ _ | refine blk_drew ?_ | refine blk_alloc ?_ _)); refine blk_far ?_ NB499_504.out _; (with_reducible repeat (first | refine blk_drewN ?_ _ | refine blk_drew ?_ | refine blk_alloc ?_ _)); exact BK499.out⟩
           have n1_ : Aside0 (((w39.setCell ⟨gb504, 0, none⟩ (.string ((rd_T69 l0_2 x24_2).f0))).setCell ⟨gb504, 1, none⟩ (.string ((rd_T69 l0_2 x24_2).f1))).heap[gb504]? = some (.cells #[.string ((rd_T69 l0_2 x24_2).f0), .string ((rd_T69 l0_2 x24_2).f1)] 69 (0, 0))) := ⟨by (with_reducible repeat (first | refine blk_drewN ?_ _ | refine blk_drew ?_ | refine blk_alloc ?_ _)); refine blk_put (cs := #[.string ((rd_T69 l0_2 x24_2).f0), .string (⟨#[]⟩ : ByteArray)]) ?_ 1 _ rfl; (with_reducible repeat (first | refine blk_drewN ?_ _ | refine blk_drew ?_ | refine blk_alloc ?_ _)); refine blk_put (cs := #[.string (⟨#[]⟩ : ByteArray), .string (⟨#[]⟩ : ByteArray)]) ?_ 0 _ rfl; (with_reducible repeat (first | refine blk_drewN ?_ _ | refine blk_drew ?_ | refine blk_alloc ?_ _)); exact BK504.out⟩
           have n2_ : Aside0 (Below w.heap.size w ((w39.setCell ⟨gb504, 0, none⟩ (.string ((rd_T69 l0_2 x24_2).f0))).setCell ⟨gb504, 1, none⟩ (.string ((rd_T69 l0_2 x24_2).f1)))) := ⟨bb⟩
           (try clear BK499)
           (try clear BK504)
           (try clear HB)
           generalize ((w39.setCell ⟨gb504, 0, none⟩ (.string ((rd_T69 l0_2 x24_2).f0))).setCell ⟨gb504, 1, none⟩ (.string ((rd_T69 l0_2 x24_2).f1))) = w42 at n0_ n1_ n2_ ⊢
           have BK499 := n0_
           have BK504 := n1_
           have HB := n2_
           clear n0_ n1_ n2_
           replace BK499 := ak (blk_drew BK499.out)
           replace BK504 := ak (blk_drew BK504.out)
           replace HB := ak (below_drew1 HB.out)
           refine ro [2, 7, 23] [0, 1, 2, 3, 4, 5, 6, 7, 8, 9, 10, 11, 12, 13, 14, 15, 16, 17, 19, 21, 18, 20, 22, 23, 24, 25] (fun w' => w'.cell? ⟨gb504, 0, none⟩ = some (.string ((rd_T69 l0_2 x24_2).f0)) ∧ w'.cell? ⟨gb504, 1, none⟩ = some (.string ((rd_T69 l0_2 x24_2).f1)) ∧ w'.cell? ⟨gb499, 0, none⟩ = some (.string a0_0) ∧ w'.cell? ⟨gb499, 1, none⟩ = some (.string a0_1) ∧ w'.cell? ⟨gb499, 2, none⟩ = some (.slice (some ad503) l0_2.length c0_2)) ⟨(blk_cell BK504.out 0).trans rfl, (blk_cell BK504.out 1).trans rfl, (blk_cell BK499.out 0).trans rfl, (blk_cell BK499.out 1).trans rfl, (blk_cell BK499.out 2).trans rfl⟩ ?_
           generalize w42.drew = w43 at BK499 BK504 HB ⊢
           repeat (refine lk (v := ?_) (a' := ?_) (gk.trans rfl) rfl rfl ?_ ?_ ?_; rotate_left; (focus (rintro w' ⟨s0, s1, s2, s3, s4⟩; go_simp; with_reducible rfl)); rotate_left; (focus (simp only [Act.put, l_a, l_b, l_c, i64_w, i32_w]; rfl)))
           refine ld (N := some 31) (gk.trans rfl) rfl rfl (fun K hK => ?_)
           refine goes_ Tryz.func136 (by kernel_rfl) rfl #[.string ((rd_T69 l0_2 x24_2).f0)] (by rfl) rfl rfl ma ?_
           with_reducible refine (impl_isSmallName.calls k2 ((rd_T69 l0_2 x24_2).f0) true _ A24.out).mono ?_
           rintro e w44 ⟨rfl, hb⟩
           refine ⟨_, rfl, ?_⟩
           replace BK499 := kb BK499 hb
           replace BK504 := kb BK504 hb
           replace HB := ak (below_step bb hb)
           (try clear hb)
           refine hK.out _ _ ⟨(blk_cell BK504.out 0).trans rfl, (blk_cell BK504.out 1).trans rfl, (blk_cell BK499.out 0).trans rfl, (blk_cell BK499.out 1).trans rfl, (blk_cell BK499.out 2).trans rfl⟩ ?_
           clear hK K
           refine no (a' := ?_) ?_ ?_
           rotate_left
           ·
            show Act.put _ (some 31) _ = _
            simp only [Act.put, l_a, l_b, l_c, i64_w, i32_w]
            rfl
           repeat (refine lk (v := ?_) (a' := ?_) (gk.trans rfl) rfl rfl ?_ ?_ ?_; rotate_left; (focus (rintro w' ⟨s0, s1, s2, s3, s4⟩; go_simp; with_reducible rfl)); rotate_left; (focus (simp only [Act.put, l_a, l_b, l_c, i64_w, i32_w]; rfl)))
           refine ld (N := some 36) (gk.trans rfl) rfl rfl (fun K hK => ?_)
           refine goes_ Tryz.func89 (by kernel_rfl) rfl #[.string ((rd_T69 l0_2 x24_2).f1)] (by rfl) rfl rfl ma ?_
           with_reducible refine (impl_TextValid.calls k2 ((rd_T69 l0_2 x24_2).f1) true _ A26.out).mono ?_
           rintro e w' ⟨rfl, ⟨nd, rfl⟩⟩
           refine ⟨_, rfl, ?_⟩
           have q45 : (x24_2 : Int) ≤ ((l0_2.length : Int) : Int) := of_decide_eq_true (by assumption)
           obtain ⟨i045, hi045, _, hsz45, _⟩ := info_parts info69
           have hroom45 : l0_2.length ≤ c0_2 := HC0_2.out
           have hC45 : Kd.C k69 _ (some ad503) l0_2.length l0_2 := HR0_2.out
           have hcut45 := cut_to (P := Tryz.prog) 25 69 .i64 Tryz.underlying25 hi045 (some ad503) l0_2.length c0_2 x24_2 (of_decide_eq_true (by assumption)) q45 hroom45
           have hr45 := Kd.C_take (m := (x24_2 : Int).toNat) hC45 (by omega)
           have hy45 : y507.length = (x24_2 : Int).toNat := (by rw [Ny507.out, List.length_take]; omega)
           rw [← Ny507.out] at hr45
           rw [← hy45] at hcut45
           have HR510 := ak hr45
           have HC510 := ak (show y507.length ≤ c0_2 from by omega)
           clear hr45 hC45 hroom45 hi045 hsz45
           have KY45 := ak hy45
           clear hy45
           replace q45 := eq_true q45
           refine hK.out _ _ ⟨(blk_cell BK504.out 0).trans rfl, (blk_cell BK504.out 1).trans rfl, (blk_cell BK499.out 0).trans rfl, (blk_cell BK499.out 1).trans rfl, (blk_cell BK499.out 2).trans rfl⟩ ?_
           clear hK K
           refine no (a' := ?_) ?_ ?_
           rotate_left
           ·
            show Act.put _ (some 36) _ = _
            simp only [Act.put, l_a, l_b, l_c, i64_w, i32_w]
            rfl
           repeat (refine lk (v := ?_) (a' := ?_) (gk.trans rfl) rfl rfl ?_ ?_ ?_; rotate_left; (focus (rintro w' ⟨s0, s1, s2, s3, s4⟩; go_simp; with_reducible rfl)); rotate_left; (focus (simp only [Act.put, l_a, l_b, l_c, i64_w, i32_w]; rfl)))
           refine ld (N := some 52) (gk.trans rfl) rfl rfl (fun K hK => ?_)
           refine goes_ Tryz.func88 (by kernel_rfl) rfl #[.slice (some ad503) y507.length c0_2, .string ((rd_T69 l0_2 x24_2).f0)] (by rfl) rfl rfl ma ?_
           with_reducible refine (impl_fieldPlace.calls k2 _ _ y507 ((rd_T69 l0_2 x24_2).f0) t511 _ ?side1 ?side2 A37.out).mono ?_
           (case side1 => repeat (first | exact (Kd.C_below HR510.out bb) | (with_reducible refine Kd.C_alloc ?_ _) | (with_reducible refine Kd.C_drewN ?_ _) | (with_reducible refine Kd.C_drew ?_)))
           (case side2 => exact HC510.out)
           rintro e w46 ⟨rfl, hb⟩
           refine ⟨_, rfl, ?_⟩
           replace BK499 := kb BK499 hb
           replace BK504 := kb BK504 hb
           replace HB := ak (below_step bb hb)
           (try clear hb)
           refine hK.out _ _ ⟨(blk_cell BK504.out 0).trans rfl, (blk_cell BK504.out 1).trans rfl, (blk_cell BK499.out 0).trans rfl, (blk_cell BK499.out 1).trans rfl, (blk_cell BK499.out 2).trans rfl⟩ ?_
           clear hK K
           refine no (a' := ?_) ?_ ?_
           rotate_left
           ·
            show Act.put _ (some 52) _ = _
            simp only [Act.put, l_a, l_b, l_c, i64_w, i32_w]
            rfl
           repeat (refine lk (v := ?_) (a' := ?_) (gk.trans rfl) rfl rfl ?_ ?_ ?_; rotate_left; (focus (rintro w' ⟨s0, s1, s2, s3, s4⟩; go_simp; with_reducible rfl)); rotate_left; (focus (simp only [Act.put, l_a, l_b, l_c, i64_w, i32_w]; rfl)))
           refine on ?_
           try go_wp2
           go_ret
           exact ⟨er, bb⟩
          ·
           have c38b0 : decide (0 ≤ t511) = false := decide_eq_false c38
           clear c38
           have H' := ak H; clear H
           have p503 := zi x24_2
           have q503 := zj x24_2 l0_2.length
           obtain ⟨ad503, e503, hx503_0, hx503_1⟩ := at_T69 HR0_2.out x24_2 p503 q503
           cases e503
           replace hx503_0 := cl HB.out hx503_0
           replace hx503_1 := cl HB.out hx503_1
           replace p503 := eq_true p503
           replace q503 := eq_true q503
           try go_wp2_with (first | (refine gate_dst (N := 4) rfl ?_; (try (refine gate_guard (by rfl) ?_; dsimp only)); refine bE 4 #[.string (⟨#[]⟩ : ByteArray), .string (⟨#[]⟩ : ByteArray)] 69 ?_; intro gb504 hg w47 hbox hb; have BK504 := ak (hbox); have GW504 := ak ((by rw [hg]; exact (below_size bb) : w.heap.size ≤ gb504)); have GE504 := ak ((by rw [hg]; exact (below_size bb) : w.heap.size ≤ gb504)); have NB499_504 := ak ((by rw [hg]; exact Nat.ne_of_lt (blk_lt (ub BK499.out)) : gb499 ≠ gb504)); have NB504_499 := ak ((by rw [hg]; exact Nat.ne_of_gt (blk_lt (ub BK499.out)) : gb504 ≠ gb499)); replace BK499 := kb BK499 hb; replace HB := ak (below_step bb hb); clear hb hbox hg; have hnb48 := NB504_499.out; have hnc48 := NB499_504.out; obtain ⟨hcz49_0, hcz49_1, hfz49_0, hfz49_1⟩ := cz2 BK504.out))
           have n0_ : Aside0 (((w47.setCell ⟨gb504, 0, none⟩ (.string ((rd_T69 l0_2 x24_2).f0))).setCell ⟨gb504, 1, none⟩ (.string ((rd_T69 l0_2 x24_2).f1))).heap[gb499]? = some (.cells #[.string a0_0, .string a0_1, .slice (some ad503) l0_2.length c0_2] 61 (0, 0))) := ⟨by (with_reducible repeat (first | refine blk_drewN ?_ _ | refine blk_drew ?_ | refine blk_alloc ?_ _)); refine blk_far ?_ NB499_504.out _; (with_reducible repeat (first | refine blk_drewN ?_ _ | refine blk_drew ?_ | refine blk_alloc ?_ _)); refine blk_far ?_ NB499_504.out _; (with_reducible repeat (first | refine blk_drewN ?_ _ | refine blk_drew ?_ | refine blk_alloc ?_ _)); exact BK499.out⟩
           have n1_ : Aside0 (((w47.setCell ⟨gb504, 0, none⟩ (.string ((rd_T69 l0_2 x24_2).f0))).setCell ⟨gb504, 1, none⟩ (.string ((rd_T69 l0_2 x24_2).f1))).heap[gb504]? = some (.cells #[.string ((rd_T69 l0_2 x24_2).f0), .string ((rd_T69 l0_2 x24_2).f1)] 69 (0, 0))) := ⟨by (with_reducible repeat (first | refine blk_drewN ?_ _ | refine blk_drew ?_ | refine blk_alloc ?_ _)); refine blk_put (cs := #[.string ((rd_T69 l0_2 x24_2).f0), .string (⟨#[]⟩ : ByteArray)]) ?_ 1 _ rfl; (with_reducible repeat (first | refine blk_drewN ?_ _ | refine blk_drew ?_ | refine blk_alloc ?_ _)); refine blk_put (cs := #[.string (⟨#[]⟩ : ByteArray), .string (⟨#[]⟩ : ByteArray)]) ?_ 0 _ rfl; (with_reducible repeat (first | refine blk_drewN ?_ _ | refine blk_drew ?_ | refine blk_alloc ?_ _)); exact BK504.out⟩
           have n2_ : Aside0 (Below w.heap.size w ((w47.setCell ⟨gb504, 0, none⟩ (.string ((rd_T69 l0_2 x24_2).f0))).setCell ⟨gb504, 1, none⟩ (.string ((rd_T69 l0_2 x24_2).f1)))) := ⟨bb⟩
           (try clear BK499)
           (try clear BK504)
           (try clear HB)
           generalize ((w47.setCell ⟨gb504, 0, none⟩ (.string ((rd_T69 l0_2 x24_2).f0))).setCell ⟨gb504, 1, none⟩ (.string ((rd_T69 l0_2 x24_2).f1))) = w50 at n0_ n1_ n2_ ⊢
           have BK499 := n0_
           have BK504 := n1_
           have HB := n2_
           clear n0_ n1_ n2_
           replace BK499 := ak (blk_drew BK499.out)
           replace BK504 := ak (blk_drew BK504.out)
           replace HB := ak (below_drew1 HB.out)
           refine ro [2, 7, 23] [0, 1, 2, 3, 4, 5, 6, 7, 8, 9, 10, 11, 12, 13, 14, 15, 16, 17, 19, 21, 18, 20, 22, 23, 24, 25] (fun w' => w'.cell? ⟨gb504, 0, none⟩ = some (.string ((rd_T69 l0_2 x24_2).f0)) ∧ w'.cell? ⟨gb504, 1, none⟩ = some (.string ((rd_T69 l0_2 x24_2).f1)) ∧ w'.cell? ⟨gb499, 0, none⟩ = some (.string a0_0) ∧ w'.cell? ⟨gb499, 1, none⟩ = some (.string a0_1) ∧ w'.cell? ⟨gb499, 2, none⟩ = some (.slice (some ad503) l0_2.length c0_2)) ⟨(blk_cell BK504.out 0).trans rfl, (blk_cell BK504.out 1).trans rfl, (blk_cell BK499.out 0).trans rfl, (blk_cell BK499.out 1).trans rfl, (blk_cell BK499.out 2).trans rfl⟩ ?_
           generalize w50.drew = w51 at BK499 BK504 HB ⊢
           repeat (refine lk (v := ?_) (a' := ?_) (gk.trans rfl) rfl rfl ?_ ?_ ?_; rotate_left; (focus (rintro w' ⟨s0, s1, s2, s3, s4⟩; go_simp; with_reducible rfl)); rotate_left; (focus (simp only [Act.put, l_a, l_b, l_c, i64_w, i32_w]; rfl)))
           refine ld (N := some 31) (gk.trans rfl) rfl rfl (fun K hK => ?_)
           refine goes_ Tryz.func136 (by kernel_rfl) rfl #[.string ((rd_T69 l0_2 x24_2).f0)] (by rfl) rfl rfl ma ?_
           with_reducible refine (impl_isSmallName.calls k2 ((rd_T69 l0_2 x24_2).f0) true _ A24.out).mono ?_
           rintro e w52 ⟨rfl, hb⟩
           refine ⟨_, rfl, ?_⟩
           replace BK499 := kb BK499 hb
           replace BK504 := kb BK504 hb
           replace HB := ak (below_step bb hb)
           (try clear hb)
           refine hK.out _ _ ⟨(blk_cell BK504.out 0).trans rfl, (blk_cell BK504.out 1).trans rfl, (blk_cell BK499.out 0).trans rfl, (blk_cell BK499.out 1).trans rfl, (blk_cell BK499.out 2).trans rfl⟩ ?_
           clear hK K
           refine no (a' := ?_) ?_ ?_
           rotate_left
           ·
            show Act.put _ (some 31) _ = _
            simp only [Act.put, l_a, l_b, l_c, i64_w, i32_w]
            rfl
           repeat (refine lk (v := ?_) (a' := ?_) (gk.trans rfl) rfl rfl ?_ ?_ ?_; rotate_left; (focus (rintro w' ⟨s0, s1, s2, s3, s4⟩; go_simp; with_reducible rfl)); rotate_left; (focus (simp only [Act.put, l_a, l_b, l_c, i64_w, i32_w]; rfl)))
           refine ld (N := some 36) (gk.trans rfl) rfl rfl (fun K hK => ?_)
           refine goes_ Tryz.func89 (by kernel_rfl) rfl #[.string ((rd_T69 l0_2 x24_2).f1)] (by rfl) rfl rfl ma ?_
           with_reducible refine (impl_TextValid.calls k2 ((rd_T69 l0_2 x24_2).f1) true _ A26.out).mono ?_
           rintro e w' ⟨rfl, ⟨nd, rfl⟩⟩
           refine ⟨_, rfl, ?_⟩
           have q53 : (x24_2 : Int) ≤ ((l0_2.length : Int) : Int) := of_decide_eq_true (by assumption)
           obtain ⟨i053, hi053, _, hsz53, _⟩ := info_parts info69
           have hroom53 : l0_2.length ≤ c0_2 := HC0_2.out
           have hC53 : Kd.C k69 _ (some ad503) l0_2.length l0_2 := HR0_2.out
           have hcut53 := cut_to (P := Tryz.prog) 25 69 .i64 Tryz.underlying25 hi053 (some ad503) l0_2.length c0_2 x24_2 (of_decide_eq_true (by assumption)) q53 hroom53
           have hr53 := Kd.C_take (m := (x24_2 : Int).toNat) hC53 (by omega)
           have hy53 : y507.length = (x24_2 : Int).toNat := (by rw [Ny507.out, List.length_take]; omega)
           rw [← Ny507.out] at hr53
           rw [← hy53] at hcut53
           have HR510 := ak hr53
           have HC510 := ak (show y507.length ≤ c0_2 from by omega)
           clear hr53 hC53 hroom53 hi053 hsz53
           have KY53 := ak hy53
           clear hy53
           replace q53 := eq_true q53
           refine hK.out _ _ ⟨(blk_cell BK504.out 0).trans rfl, (blk_cell BK504.out 1).trans rfl, (blk_cell BK499.out 0).trans rfl, (blk_cell BK499.out 1).trans rfl, (blk_cell BK499.out 2).trans rfl⟩ ?_
           clear hK K
           refine no (a' := ?_) ?_ ?_
           rotate_left
           ·
            show Act.put _ (some 36) _ = _
            simp only [Act.put, l_a, l_b, l_c, i64_w, i32_w]
            rfl
           repeat (refine lk (v := ?_) (a' := ?_) (gk.trans rfl) rfl rfl ?_ ?_ ?_; rotate_left; (focus (rintro w' ⟨s0, s1, s2, s3, s4⟩; go_simp; with_reducible rfl)); rotate_left; (focus (simp only [Act.put, l_a, l_b, l_c, i64_w, i32_w]; rfl)))
           refine ld (N := some 52) (gk.trans rfl) rfl rfl (fun K hK => ?_)
           refine goes_ Tryz.func88 (by kernel_rfl) rfl #[.slice (some ad503) y507.length c0_2, .string ((rd_T69 l0_2 x24_2).f0)] (by rfl) rfl rfl ma ?_
           with_reducible refine (impl_fieldPlace.calls k2 _ _ y507 ((rd_T69 l0_2 x24_2).f0) t511 _ ?side1 ?side2 A37.out).mono ?_
           (case side1 => repeat (first | exact (Kd.C_below HR510.out bb) | (with_reducible refine Kd.C_alloc ?_ _) | (with_reducible refine Kd.C_drewN ?_ _) | (with_reducible refine Kd.C_drew ?_)))
           (case side2 => exact HC510.out)
           rintro e w54 ⟨rfl, hb⟩
           refine ⟨_, rfl, ?_⟩
           replace BK499 := kb BK499 hb
           replace BK504 := kb BK504 hb
           replace HB := ak (below_step bb hb)
           (try clear hb)
           refine hK.out _ _ ⟨(blk_cell BK504.out 0).trans rfl, (blk_cell BK504.out 1).trans rfl, (blk_cell BK499.out 0).trans rfl, (blk_cell BK499.out 1).trans rfl, (blk_cell BK499.out 2).trans rfl⟩ ?_
           clear hK K
           refine no (a' := ?_) ?_ ?_
           rotate_left
           ·
            show Act.put _ (some 52) _ = _
            simp only [Act.put, l_a, l_b, l_c, i64_w, i32_w]
            rfl
           repeat (refine lk (v := ?_) (a' := ?_) (gk.trans rfl) rfl rfl ?_ ?_ ?_; rotate_left; (focus (rintro w' ⟨s0, s1, s2, s3, s4⟩; go_simp; with_reducible rfl)); rotate_left; (focus (simp only [Act.put, l_a, l_b, l_c, i64_w, i32_w]; rfl)))
           refine on ?_
           try go_wp2
           go_roundg k2
           case measure => have := HJ1.out; have := HK2.out; omega
           case rel => exact ⟨(wrap64 (x24_2 + 1)), rs, H', ⟨by have := HJ1.out; have := HK2.out; omega⟩, ⟨ub BK499.out⟩, ⟨bb⟩⟩
        ·
         obtain rfl := Option.some.inj H
         have p503 := zi x24_2
         have q503 := zj x24_2 l0_2.length
         obtain ⟨ad503, e503, hx503_0, hx503_1⟩ := at_T69 HR0_2.out x24_2 p503 q503
         cases e503
         replace hx503_0 := cl HB.out hx503_0
         replace hx503_1 := cl HB.out hx503_1
         replace p503 := eq_true p503
         replace q503 := eq_true q503
         try go_wp2_with (first | (refine gate_dst (N := 4) rfl ?_; (try (refine gate_guard (by rfl) ?_; dsimp only)); refine bE 4 #[.string (⟨#[]⟩ : ByteArray), .string (⟨#[]⟩ : ByteArray)] 69 ?_; intro gb504 hg w55 hbox hb; have BK504 := ak (hbox); have GW504 := ak ((by rw [hg]; exact (below_size bb) : w.heap.size ≤ gb504)); have GE504 := ak ((by rw [hg]; exact (below_size bb) : w.heap.size ≤ gb504)); have NB499_504 := ak ((by rw [hg]; exact Nat.ne_of_lt (blk_lt (ub BK499.out)) : gb499 ≠ gb504)); have NB504_499 := ak ((by rw [hg]; exact Nat.ne_of_gt (blk_lt (ub BK499.out)) : gb504 ≠ gb499)); replace BK499 := kb BK499 hb; replace HB := ak (below_step bb hb); clear hb hbox hg; have hnb56 := NB504_499.out; have hnc56 := NB499_504.out; obtain ⟨hcz57_0, hcz57_1, hfz57_0, hfz57_1⟩ := cz2 BK504.out))
         have n0_ : Aside0 (((w55.setCell ⟨gb504, 0, none⟩ (.string ((rd_T69 l0_2 x24_2).f0))).setCell ⟨gb504, 1, none⟩ (.string ((rd_T69 l0_2 x24_2).f1))).heap[gb499]? = some (.cells #[.string a0_0, .string a0_1, .slice (some ad503) l0_2.length c0_2] 61 (0, 0))) := ⟨by (with_reducible repeat (first | refine blk_drewN ?_ _ | refine blk_drew ?_ | refine blk_alloc ?_ _)); refine blk_far ?_ NB499_504.out _; (with_reducible repeat (first | refine blk_drewN ?_ _ | refine blk_drew ?_ | refine blk_alloc ?_ _)); refine blk_far ?_ NB499_504.out _; (with_reducible repeat (first | refine blk_drewN ?_ _ | refine blk_drew ?_ | refine blk_alloc ?_ _)); exact BK499.out⟩
         have n1_ : Aside0 (((w55.setCell ⟨gb504, 0, none⟩ (.string ((rd_T69 l0_2 x24_2).f0))).setCell ⟨gb504, 1, none⟩ (.string ((rd_T69 l0_2 x24_2).f1))).heap[gb504]? = some (.cells #[.string ((rd_T69 l0_2 x24_2).f0), .string ((rd_T69 l0_2 x24_2).f1)] 69 (0, 0))) := ⟨by (with_reducible repeat (first | refine blk_drewN ?_ _ | refine blk_drew ?_ | refine blk_alloc ?_ _)); refine blk_put (cs := #[.string ((rd_T69 l0_2 x24_2).f0), .string (⟨#[]⟩ : ByteArray)]) ?_ 1 _ rfl; (with_reducible repeat (first | refine blk_drewN ?_ _ | refine blk_drew ?_ | refine blk_alloc ?_ _)); refine blk_put (cs := #[.string (⟨#[]⟩ : ByteArray), .string (⟨#[]⟩ : ByteArray)]) ?_ 0 _ rfl; (with_reducible repeat (first | refine blk_drewN ?_ _ | refine blk_drew ?_ | refine blk_alloc ?_ _)); exact BK504.out⟩
         have n2_ : Aside0 (Below w.heap.size w ((w55.setCell ⟨gb504, 0, none⟩ (.string ((rd_T69 l0_2 x24_2).f0))).setCell ⟨gb504, 1, none⟩ (.string ((rd_T69 l0_2 x24_2).f1)))) := ⟨bb⟩
         (try clear BK499)
         (try clear BK504)
         (try clear HB)
         generalize ((w55.setCell ⟨gb504, 0, none⟩ (.string ((rd_T69 l0_2 x24_2).f0))).setCell ⟨gb504, 1, none⟩ (.string ((rd_T69 l0_2 x24_2).f1))) = w58 at n0_ n1_ n2_ ⊢
         have BK499 := n0_
         have BK504 := n1_
         have HB := n2_
         clear n0_ n1_ n2_
         replace BK499 := ak (blk_drew BK499.out)
         replace BK504 := ak (blk_drew BK504.out)
         replace HB := ak (below_drew1 HB.out)
         refine ro [2, 7] [0, 1, 2, 3, 4, 5, 6, 7, 8, 9, 10, 11, 12, 13, 14, 15, 16, 17, 18, 19, 20, 21, 22, 23, 24, 25] (fun w' => w'.cell? ⟨gb504, 0, none⟩ = some (.string ((rd_T69 l0_2 x24_2).f0)) ∧ w'.cell? ⟨gb504, 1, none⟩ = some (.string ((rd_T69 l0_2 x24_2).f1))) ⟨(blk_cell BK504.out 0).trans rfl, (blk_cell BK504.out 1).trans rfl⟩ ?_
         generalize w58.drew = w59 at BK499 BK504 HB ⊢
         repeat (first | (refine lk (v := ?_) (a' := ?_) (gk.trans rfl) rfl rfl ?_ ?_ ?_; rotate_left; (focus (rintro w' ⟨s0, s1⟩; go_simp; with_reducible rfl)); rotate_left; (focus (simp only [Act.put, l_a, l_b, l_c, i64_w, i32_w]; rfl))) | (refine lf (a' := ?_) (gk.trans rfl) rfl rfl ?_ ?_; rotate_left; (focus (simp only [Act.put, l_a, l_b, l_c, i64_w, i32_w]; rfl))))
         refine ld (N := some 31) (gk.trans rfl) rfl rfl (fun K hK => ?_)
         refine goes_ Tryz.func136 (by kernel_rfl) rfl #[.string ((rd_T69 l0_2 x24_2).f0)] (by rfl) rfl rfl ma ?_
         with_reducible refine (impl_isSmallName.calls k2 ((rd_T69 l0_2 x24_2).f0) true _ A24.out).mono ?_
         rintro e w60 ⟨rfl, hb⟩
         refine ⟨_, rfl, ?_⟩
         replace BK499 := kb BK499 hb
         replace BK504 := kb BK504 hb
         replace HB := ak (below_step bb hb)
         (try clear hb)
         refine hK.out _ _ ⟨(blk_cell BK504.out 0).trans rfl, (blk_cell BK504.out 1).trans rfl⟩ ?_
         clear hK K
         refine no (a' := ?_) ?_ ?_
         rotate_left
         ·
          show Act.put _ (some 31) _ = _
          simp only [Act.put, l_a, l_b, l_c, i64_w, i32_w]
          rfl
         repeat (first | (refine lk (v := ?_) (a' := ?_) (gk.trans rfl) rfl rfl ?_ ?_ ?_; rotate_left; (focus (rintro w' ⟨s0, s1⟩; go_simp; with_reducible rfl)); rotate_left; (focus (simp only [Act.put, l_a, l_b, l_c, i64_w, i32_w]; rfl))) | (refine lf (a' := ?_) (gk.trans rfl) rfl rfl ?_ ?_; rotate_left; (focus (simp only [Act.put, l_a, l_b, l_c, i64_w, i32_w]; rfl))))
         refine ld (N := some 36) (gk.trans rfl) rfl rfl (fun K hK => ?_)
         refine goes_ Tryz.func89 (by kernel_rfl) rfl #[.string ((rd_T69 l0_2 x24_2).f1)] (by rfl) rfl rfl ma ?_
         with_reducible refine (impl_TextValid.calls k2 ((rd_T69 l0_2 x24_2).f1) false _ A26.out).mono ?_
         rintro e w' ⟨rfl, ⟨nd, rfl⟩⟩
         refine ⟨_, rfl, ?_⟩
         refine hK.out _ _ ⟨(blk_cell BK504.out 0).trans rfl, (blk_cell BK504.out 1).trans rfl⟩ ?_
         clear hK K
         refine no (a' := ?_) ?_ ?_
         rotate_left
         ·
          show Act.put _ (some 36) _ = _
          simp only [Act.put, l_a, l_b, l_c, i64_w, i32_w]
          rfl
         repeat (first | (refine lk (v := ?_) (a' := ?_) (gk.trans rfl) rfl rfl ?_ ?_ ?_; rotate_left; (focus (rintro w' ⟨s0, s1⟩; go_simp; with_reducible rfl)); rotate_left; (focus (simp only [Act.put, l_a, l_b, l_c, i64_w, i32_w]; rfl))) | (refine lf (a' := ?_) (gk.trans rfl) rfl rfl ?_ ?_; rotate_left; (focus (simp only [Act.put, l_a, l_b, l_c, i64_w, i32_w]; rfl))))
         refine on ?_
         try go_wp2
         go_ret
         exact ⟨er, bb⟩
       ·
        obtain rfl := Option.some.inj H
        have p503 := zi x24_2
        have q503 := zj x24_2 l0_2.length
        obtain ⟨ad503, e503, hx503_0, hx503_1⟩ := at_T69 HR0_2.out x24_2 p503 q503
        cases e503
        replace hx503_0 := cl HB.out hx503_0
        replace hx503_1 := cl HB.out hx503_1
        replace p503 := eq_true p503
        replace q503 := eq_true q503
        try go_wp2_with (first | (refine gate_dst (N := 4) rfl ?_; (try (refine gate_guard (by rfl) ?_; dsimp only)); refine bE 4 #[.string (⟨#[]⟩ : ByteArray), .string (⟨#[]⟩ : ByteArray)] 69 ?_; intro gb504 hg w61 hbox hb; have BK504 := ak (hbox); have GW504 := ak ((by rw [hg]; exact (below_size bb) : w.heap.size ≤ gb504)); have GE504 := ak ((by rw [hg]; exact (below_size bb) : w.heap.size ≤ gb504)); have NB499_504 := ak ((by rw [hg]; exact Nat.ne_of_lt (blk_lt (ub BK499.out)) : gb499 ≠ gb504)); have NB504_499 := ak ((by rw [hg]; exact Nat.ne_of_gt (blk_lt (ub BK499.out)) : gb504 ≠ gb499)); replace BK499 := kb BK499 hb; replace HB := ak (below_step bb hb); clear hb hbox hg; have hnb62 := NB504_499.out; have hnc62 := NB499_504.out; obtain ⟨hcz63_0, hcz63_1, hfz63_0, hfz63_1⟩ := cz2 BK504.out))
        have n0_ : Aside0 (((w61.setCell ⟨gb504, 0, none⟩ (.string ((rd_T69 l0_2 x24_2).f0))).setCell ⟨gb504, 1, none⟩ (.string ((rd_T69 l0_2 x24_2).f1))).heap[gb499]? = some (.cells #[.string a0_0, .string a0_1, .slice (some ad503) l0_2.length c0_2] 61 (0, 0))) := ⟨by (with_reducible repeat (first | refine blk_drewN ?_ _ | refine blk_drew ?_ | refine blk_alloc ?_ _)); refine blk_far ?_ NB499_504.out _; (with_reducible repeat (first | refine blk_drewN ?_ _ | refine blk_drew ?_ | refine blk_alloc ?_ _)); refine blk_far ?_ NB499_504.out _; (with_reducible repeat (first | refine blk_drewN ?_ _ | refine blk_drew ?_ | refine blk_alloc ?_ _)); exact BK499.out⟩
        have n1_ : Aside0 (((w61.setCell ⟨gb504, 0, none⟩ (.string ((rd_T69 l0_2 x24_2).f0))).setCell ⟨gb504, 1, none⟩ (.string ((rd_T69 l0_2 x24_2).f1))).heap[gb504]? = some (.cells #[.string ((rd_T69 l0_2 x24_2).f0), .string ((rd_T69 l0_2 x24_2).f1)] 69 (0, 0))) := ⟨by (with_reducible repeat (first | refine blk_drewN ?_ _ | refine blk_drew ?_ | refine blk_alloc ?_ _)); refine blk_put (cs := #[.string ((rd_T69 l0_2 x24_2).f0), .string (⟨#[]⟩ : ByteArray)]) ?_ 1 _ rfl; (with_reducible repeat (first | refine blk_drewN ?_ _ | refine blk_drew ?_ | refine blk_alloc ?_ _)); refine blk_put (cs := #[.string (⟨#[]⟩ : ByteArray), .string (⟨#[]⟩ : ByteArray)]) ?_ 0 _ rfl; (with_reducible repeat (first | refine blk_drewN ?_ _ | refine blk_drew ?_ | refine blk_alloc ?_ _)); exact BK504.out⟩
        have n2_ : Aside0 (Below w.heap.size w ((w61.setCell ⟨gb504, 0, none⟩ (.string ((rd_T69 l0_2 x24_2).f0))).setCell ⟨gb504, 1, none⟩ (.string ((rd_T69 l0_2 x24_2).f1)))) := ⟨bb⟩
        (try clear BK499)
        (try clear BK504)
        (try clear HB)
        generalize ((w61.setCell ⟨gb504, 0, none⟩ (.string ((rd_T69 l0_2 x24_2).f0))).setCell ⟨gb504, 1, none⟩ (.string ((rd_T69 l0_2 x24_2).f1))) = w64 at n0_ n1_ n2_ ⊢
        have BK499 := n0_
        have BK504 := n1_
        have HB := n2_
        clear n0_ n1_ n2_
        replace BK499 := ak (blk_drew BK499.out)
        replace BK504 := ak (blk_drew BK504.out)
        replace HB := ak (below_drew1 HB.out)
        refine ro [2] [0, 1, 2, 3, 4, 5, 6, 7, 8, 9, 10, 11, 12, 13, 14, 15, 16, 17, 18, 19, 20, 21, 22, 23, 24, 25] (fun w' => w'.cell? ⟨gb504, 0, none⟩ = some (.string ((rd_T69 l0_2 x24_2).f0)) ∧ w'.cell? ⟨gb504, 1, none⟩ = some (.string ((rd_T69 l0_2 x24_2).f1))) ⟨(blk_cell BK504.out 0).trans rfl, (blk_cell BK504.out 1).trans rfl⟩ ?_
        generalize w64.drew = w65 at BK499 BK504 HB ⊢
        repeat (first | (refine lk (v := ?_) (a' := ?_) (gk.trans rfl) rfl rfl ?_ ?_ ?_; rotate_left; (focus (rintro w' ⟨s0, s1⟩; go_simp; with_reducible rfl)); rotate_left; (focus (simp only [Act.put, l_a, l_b, l_c, i64_w, i32_w]; rfl))) | (refine lf (a' := ?_) (gk.trans rfl) rfl rfl ?_ ?_; rotate_left; (focus (simp only [Act.put, l_a, l_b, l_c, i64_w, i32_w]; rfl))))
        refine ld (N := some 31) (gk.trans rfl) rfl rfl (fun K hK => ?_)
        refine goes_ Tryz.func136 (by kernel_rfl) rfl #[.string ((rd_T69 l0_2 x24_2).f0)] (by rfl) rfl rfl ma ?_
        with_reducible refine (impl_isSmallName.calls k2 ((rd_T69 l0_2 x24_2).f0) false _ A24.out).mono ?_
        rintro e w66 ⟨rfl, hb⟩
        refine ⟨_, rfl, ?_⟩
        replace BK499 := kb BK499 hb
        replace BK504 := kb BK504 hb
        replace HB := ak (below_step bb hb)
        (try clear hb)
        refine hK.out _ _ ⟨(blk_cell BK504.out 0).trans rfl, (blk_cell BK504.out 1).trans rfl⟩ ?_
        clear hK K
        refine no (a' := ?_) ?_ ?_
        rotate_left
        ·
         show Act.put _ (some 31) _ = _
         simp only [Act.put, l_a, l_b, l_c, i64_w, i32_w]
         rfl
        repeat (first | (refine lk (v := ?_) (a' := ?_) (gk.trans rfl) rfl rfl ?_ ?_ ?_; rotate_left; (focus (rintro w' ⟨s0, s1⟩; go_simp; with_reducible rfl)); rotate_left; (focus (simp only [Act.put, l_a, l_b, l_c, i64_w, i32_w]; rfl))) | (refine lf (a' := ?_) (gk.trans rfl) rfl rfl ?_ ?_; rotate_left; (focus (simp only [Act.put, l_a, l_b, l_c, i64_w, i32_w]; rfl))))
        refine on ?_
        try go_wp2
        go_ret
        exact ⟨er, bb⟩
      ·
       replace H := bd H; obtain ⟨t502, A67, H⟩ := H
       obtain rfl := Option.some.inj H
       obtain ⟨hcz68_0, hcz68_1, hcz68_2, hfz68_0, hfz68_1, hfz68_2⟩ := cz3 BK499.out
       go_wp2_with (first | (refine gL 137 57 Tryz.func137 #[.agg #[.string a0_0, .string a0_1, .slice A0_2 l0_2.length c0_2]] ?_; (with_reducible refine (impl_kindText.calls k2 a0_0 a0_1 _ _ l0_2 t502 _ (cu (Kd.C_below HR0_2.out HB.out)) HC0_2.out A67.out).mono ?_); rintro e w69 ⟨rfl, hb⟩; refine ⟨_, rfl, ?_⟩; replace BK499 := kb BK499 hb; replace HB := ak (below_step bb hb); (try clear hb)))
       go_ret
       exact ⟨er, bb⟩
end Go.Proofs.YtncdadcmghglkaaGreatDoor.PFnExactCountParts
