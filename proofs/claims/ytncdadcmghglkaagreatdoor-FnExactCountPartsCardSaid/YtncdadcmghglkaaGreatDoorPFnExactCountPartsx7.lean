/- Printed walks; conditions: those in each statement. -/
import Derived.Test.YtncdadcmghglkaaGreatDoorVFnExactCountPartsQt
import Derived.Test.YtncdadcmghglkaaGreatDoorVFnExactCountPartsYt
import Derived.Test.YtncdadcmghglkaaGreatDoorPFnExactCountPartsx0
import Derived.Test.YtncdadcmghglkaaGreatDoorPFnExactCountPartsx4
import Derived.Test.YtncdadcmghglkaaGreatDoorPFnExactCountPartsx5
import Derived.Test.YtncdadcmghglkaaGreatDoorPFnExactCountPartsx6
-- short
-- dense
-- sq
namespace Go.Proofs.YtncdadcmghglkaaGreatDoor.PFnExactCountParts
open Go.RowKit Go.Proofs.YtncdadcmghglkaaGreatDoor.X Go.Proofs.YtncdadcmghglkaaGreatDoorW.PrintWords Go.Proofs.YtncdadcmghglkaaGreatDoorW.PrintLast Go.Proofs.YtncdadcmghglkaaGreatDoorW.PrintMore
attribute [local go_sem] max2_int min2_int max_two min_two max_three min_three max_four min_four   -- for this text's walks alone
set_option linter.unusedVariables false
set_option linter.unusedSimpArgs false
mutual
def spec_KindValid.j0 : Nat → Bool → ByteArray → ByteArray → List (S69) → Option (Bool)
 | 0, _, _, _, _ => none
 | k + 1, x21, x242000, x242001, x242002 => if x21 = true then (some false) else (spec_KindValid.l0 k (wrap64 ((wrap64 ((x242000.size : Int) + (x242001.size : Int))) + 1)) 0 x242000 x242001 x242002)
def spec_KindValid.l0 : Nat → Int → Int → ByteArray → ByteArray → List (S69) → Option (Bool)
 | 0, _, _, _, _, _ => none
 | k + 1, x3, x4, x242000, x242001, x242002 => if x4 < (x242002.length : Int) then (if 0 ≤ x4 then ((spec_l7Word.f k ((rd_T69 x242002 x4).f0)).bind fun t246 => (if t246 = true then ((spec_l2Name.f k ((rd_T69 x242002 x4).f1)).bind fun t247 => (if t247 = true then (if x4 ≤ (x242002.length : Int) then ((spec_l3Find.f k (x242002.take (x4 : Int).toNat) ((rd_T69 x242002 x4).f0)).bind fun t252 => (if t252 ≥ 0 then (some false) else ((spec_QuoteWord.f k ((rd_T69 x242002 x4).f1)).bind fun t253 => (spec_KindValid.l0 k (wrap64 ((wrap64 ((wrap64 (x3 + 3)) + (((rd_T69 x242002 x4).f0).size : Int))) + (t253.size : Int))) (wrap64 (x4 + 1)) x242000 x242001 x242002)))) else (none)) else (some false))) else (some false))) else (none)) else (some (decide (x3 ≤ 150)))
end
def spec_KindValid.f (k : Nat) (a0_0 : ByteArray) (a0_1 : ByteArray) (l0_2 : List (S69)) : Option (Bool) := (spec_l7Word.f k a0_0).bind fun t242 => (if t242 = true then ((spec_l7Word.f k a0_1).bind fun t243 => (if t243 = true then (spec_KindValid.j0 k (decide ((l0_2.length : Int) > 4)) a0_0 a0_1 l0_2) else (spec_KindValid.j0 k true a0_0 a0_1 l0_2))) else (spec_KindValid.j0 k true a0_0 a0_1 l0_2))
def spec_KindValid.T8 : Bool × List (List Nat × List Nat) := (true, [([], []), ([0], [0]), ([1], [1]), ([2], [2]), ([3, 2], [3]), ([4], [4]), ([5, 4], [4, 5]), ([6, 4, 4], [4, 6]), ([7, 4], [4, 7]), ([4, 8], [4, 8]), ([9, 7], [9]), ([10], [10]), ([11, 10], [10, 11]), ([10], [10]), ([12, 13, 10], [10, 12, 13]), ([10], [10]), ([15, 10], [10, 15]), ([14, 16, 10, 10], [10, 14, 16]), ([17, 10], [10, 17]), ([10, 18], [10, 18])])
def spec_KindValid.B8 : List Nat := [0, 1, 3, 7, 15, 31, 63, 127, 255, 511, 1023, 2047, 4095, 2047, 16383, 2047, 34815, 131071, 262143, 524287]
theorem spec_KindValid.tab8 : rtab .any (opsOf Tryz.f182 8) = spec_KindValid.T8 := by kernel_rfl
theorem spec_KindValid.bits8 : waitsOk spec_KindValid.T8.2 spec_KindValid.B8 = true := by kernel_rfl
def spec_KindValid.T10 : Bool × List (List Nat × List Nat) := (true, [([], []), ([0], [0]), ([], []), ([2], [2]), ([3], [3]), ([1, 4], [1, 4]), ([], []), ([6], [6]), ([7], [7]), ([8], [8]), ([5, 9], [5, 9]), ([10, 8, 0, 1, 2, 3, 4, 5, 6, 7, 8, 9, 10], [0, 10])])
def spec_KindValid.B10 : List Nat := [0, 1, 0, 4, 12, 31, 0, 64, 192, 448, 1023, 2047]
theorem spec_KindValid.tab10 : rtab .any (opsOf Tryz.f182 10) = spec_KindValid.T10 := by kernel_rfl
theorem spec_KindValid.bits10 : waitsOk spec_KindValid.T10.2 spec_KindValid.B10 = true := by kernel_rfl
set_option maxHeartbeats 8000000 in
set_option maxRecDepth 100000 in
theorem spec_KindValid.calls (k : Nat) (a0_0 : ByteArray) (a0_1 : ByteArray) (A0_2 : Option Addr) (c0_2 : Nat) (l0_2 : List (S69)) (r : Bool) (w : World) (hr0_2 : Kd.C k69 w A0_2 l0_2.length l0_2) (hc0_2 : l0_2.length ≤ c0_2) (h : spec_KindValid.f k a0_0 a0_1 l0_2 = some r) :
  Calls Tryz.prog 182 #[.agg #[.string a0_0, .string a0_1, .slice A0_2 l0_2.length c0_2]] w fun e w' => e = .returned (.bool r) ∧ Below w.heap.size w w' := by
 have hu61 := Tryz.underlying61
 have hu69 := Tryz.underlying69
 have HR0_2 := ak hr0_2
 have HC0_2 := ak hc0_2
 clear hr0_2 hc0_2
 have HB := ak (Below.refl w.heap.size w)
 have H : ((spec_l7Word.f k a0_0).bind fun t242 => (if t242 = true then ((spec_l7Word.f k a0_1).bind fun t243 => (if t243 = true then (spec_KindValid.j0 k (decide ((l0_2.length : Int) > 4)) a0_0 a0_1 l0_2) else (spec_KindValid.j0 k true a0_0 a0_1 l0_2))) else (spec_KindValid.j0 k true a0_0 a0_1 l0_2))) = some r := h
 clear h
 have HC2 := ak H
 clear H
 go_enter Tryz.func182, Tryz.ntmps182
 go_upto_region 1 with (first | (refine gate_dst (N := 1) rfl ?_; (try (refine gate_guard (by rfl) ?_; dsimp only)); refine bE 1 #[.string a0_0, .string a0_1, .slice A0_2 l0_2.length c0_2] 61 ?_; intro gb241 hg w3 hbox hb; have BK241 := ak (hbox); have GW241 := ge_ HB hg; have GE241 := ge_ HB hg; replace HB := bs HB hb; clear hb hbox hg))
 (try simp only [Act.put, l_a, l_b, l_c])
 go_cut [21] (fun v21 wc => ∃ (kq : Nat) (x21_1 : Bool), v21 = .bool x21_1 ∧ Aside0 (spec_KindValid.j0 kq x21_1 a0_0 a0_1 l0_2 = some r) ∧ Aside0 (kq ≤ k) ∧ Aside0 (wc.heap[gb241]? = some (.cells #[.string a0_0, .string a0_1, (.slice A0_2 l0_2.length c0_2)] 61 (0, 0))) ∧ Aside0 (Below w.heap.size w wc))
 case first =>
  have H := HC2.out
  clear HC2
  replace H := bd H; obtain ⟨t242, A4, H⟩ := H; replace H := sb H
  rcases H with ⟨rfl, H⟩ | ⟨rfl, H⟩
  ·
   replace H := bd H; obtain ⟨t243, A6, H⟩ := H; replace H := sb H
   rcases H with ⟨rfl, H⟩ | ⟨rfl, H⟩
   ·
    have H' := ak H; clear H
    obtain ⟨hcz8_0, hcz8_1, hcz8_2, hfz8_0, hfz8_1, hfz8_2⟩ := cz3 BK241.out
    go_wp2_with (first | (refine gL 200 8 Tryz.func200 #[.string a0_0] ?_; (with_reducible refine (spec_l7Word.calls k a0_0 true _ A4.out).mono ?_); rintro e w9 ⟨rfl, hb⟩; refine ⟨_, rfl, ?_⟩; replace BK241 := kb BK241 hb; replace HB := ak (below_step bb hb); (try clear hb); obtain ⟨hcz10_0, hcz10_1, hcz10_2, hfz10_0, hfz10_1, hfz10_2⟩ := cz3 BK241.out) | (go_at_call 200; (with_reducible refine (spec_l7Word.calls k a0_1 true _ A6.out).mono ?_); rintro e w11 ⟨rfl, hb⟩; replace BK241 := kb BK241 hb; replace HB := ak (below_step bb hb); (try clear hb); obtain ⟨hcz12_0, hcz12_1, hcz12_2, hfz12_0, hfz12_1, hfz12_2⟩ := cz3 BK241.out))
    go_meet
    case rel => exact ⟨_, (decide ((l0_2.length : Int) > 4)), rs, H', ⟨le_⟩, ⟨ub BK241.out⟩, ⟨bb⟩⟩
   ·
    have H' := ak H; clear H
    obtain ⟨hcz13_0, hcz13_1, hcz13_2, hfz13_0, hfz13_1, hfz13_2⟩ := cz3 BK241.out
    go_wp2_with (first | (refine gL 200 8 Tryz.func200 #[.string a0_0] ?_; (with_reducible refine (spec_l7Word.calls k a0_0 true _ A4.out).mono ?_); rintro e w14 ⟨rfl, hb⟩; refine ⟨_, rfl, ?_⟩; replace BK241 := kb BK241 hb; replace HB := ak (below_step bb hb); (try clear hb); obtain ⟨hcz15_0, hcz15_1, hcz15_2, hfz15_0, hfz15_1, hfz15_2⟩ := cz3 BK241.out) | (go_at_call 200; (with_reducible refine (spec_l7Word.calls k a0_1 false _ A6.out).mono ?_); rintro e w16 ⟨rfl, hb⟩; replace BK241 := kb BK241 hb; replace HB := ak (below_step bb hb); (try clear hb)))
    go_meet
    case rel => exact ⟨_, (true), rs, H', ⟨le_⟩, ⟨ub BK241.out⟩, ⟨bb⟩⟩
  ·
   have H' := ak H; clear H
   obtain ⟨hcz17_0, hcz17_1, hcz17_2, hfz17_0, hfz17_1, hfz17_2⟩ := cz3 BK241.out
   go_wp2_with (first | (refine gL 200 8 Tryz.func200 #[.string a0_0] ?_; (with_reducible refine (spec_l7Word.calls k a0_0 false _ A4.out).mono ?_); rintro e w18 ⟨rfl, hb⟩; refine ⟨_, rfl, ?_⟩; replace BK241 := kb BK241 hb; replace HB := ak (below_step bb hb); (try clear hb)))
   go_meet
   case rel => exact ⟨_, (true), rs, H', ⟨le_⟩, ⟨ub BK241.out⟩, ⟨bb⟩⟩
 case rest =>
  clear HC2
  try clear c1
  try clear c2
  try clear p2
  try clear c5
  try clear c7
  try clear c18
  try clear hcz10_0
  try clear hcz10_1
  try clear hcz10_2
  try clear hcz12_0
  try clear hcz12_1
  try clear hcz12_2
  try clear hcz13_0
  try clear hcz13_1
  try clear hcz13_2
  try clear hcz15_0
  try clear hcz15_1
  try clear hcz15_2
  try clear hcz17_0
  try clear hcz17_1
  try clear hcz17_2
  try clear hcz8_0
  try clear hcz8_1
  try clear hcz8_2
  try clear hfz10_0
  try clear hfz10_1
  try clear hfz10_2
  try clear hfz12_0
  try clear hfz12_1
  try clear hfz12_2
  try clear hfz13_0
  try clear hfz13_1
  try clear hfz13_2
  try clear hfz15_0
  try clear hfz15_1
  try clear hfz15_2
  try clear hfz17_0
  try clear hfz17_1
  try clear hfz17_2
  try clear hfz8_0
  try clear hfz8_1
  try clear hfz8_2
  obtain ⟨kq, x21_1, rfl, HA, HJ1, BK241, HB⟩ := hcut
  cases kq with
  | zero => exact absurd HA.out (by simp [spec_KindValid.j0])
  | succ kj1 =>
   have H := HA.out
   clear HA
   simp only [spec_KindValid.j0] at H
   replace H := sb H
   rcases H with ⟨rfl, H⟩ | ⟨rfl, H⟩
   ·
    obtain rfl := Option.some.inj H
    go_wp2
    go_ret
    exact ⟨er, bb⟩
   ·
    have H' := ak H; clear H
    obtain ⟨hcz20_0, hcz20_1, hcz20_2, hfz20_0, hfz20_1, hfz20_2⟩ := cz3 BK241.out
    go_wp2
    go_loopg [3, 4] kj1 (fun kq v3 v4 w' => ∃ (x3_2 : Int) (x4_2 : Int), v3 = .int .i64 x3_2 ∧ v4 = .int .i64 x4_2 ∧ Aside0 (spec_KindValid.l0 kq x3_2 x4_2 a0_0 a0_1 l0_2 = some r) ∧ Aside0 (kq ≤ kj1) ∧ Aside0 (w'.heap[gb241]? = some (.cells #[.string a0_0, .string a0_1, (.slice A0_2 l0_2.length c0_2)] 61 (0, 0))) ∧ Aside0 (Below w.heap.size w w'))
    case atStart => exact ⟨(wrap64 ((wrap64 ((a0_0.size : Int) + (a0_1.size : Int))) + 1)), (0), rs, rs, H', ⟨Nat.le_refl _⟩, ⟨ub BK241.out⟩, ⟨bb⟩⟩
    case round =>
     clear H'
     try clear c1
     try clear c2
     try clear p2
     try clear c5
     try clear p6
     try clear c7
     try clear c18
     try clear c19
     try clear c20
     try clear hcz10_0
     try clear hcz10_1
     try clear hcz10_2
     try clear hcz12_0
     try clear hcz12_1
     try clear hcz12_2
     try clear hcz13_0
     try clear hcz13_1
     try clear hcz13_2
     try clear hcz15_0
     try clear hcz15_1
     try clear hcz15_2
     try clear hcz17_0
     try clear hcz17_1
     try clear hcz17_2
     try clear hcz20_0
     try clear hcz20_1
     try clear hcz20_2
     try clear hcz8_0
     try clear hcz8_1
     try clear hcz8_2
     try clear hfz10_0
     try clear hfz10_1
     try clear hfz10_2
     try clear hfz12_0
     try clear hfz12_1
     try clear hfz12_2
     try clear hfz13_0
     try clear hfz13_1
     try clear hfz13_2
     try clear hfz15_0
     try clear hfz15_1
     try clear hfz15_2
     try clear hfz17_0
     try clear hfz17_1
     try clear hfz17_2
     try clear hfz20_0
     try clear hfz20_1
     try clear hfz20_2
     try clear hfz8_0
     try clear hfz8_1
     try clear hfz8_2
     try clear p2
     obtain ⟨x3_2, x4_2, rfl, rfl, HA, HK2, BK241, HB⟩ := hrel
     cases gk with
     | zero => exact absurd HA.out (by simp [spec_KindValid.l0])
     | succ k2 =>
      have H := HA.out
      clear HA
      simp only [spec_KindValid.l0] at H
      replace H := sd H
      rcases H with ⟨c21b0, H⟩ | ⟨c21b0, H⟩
      ·
       replace H := nde H; obtain ⟨c22b0, H⟩ := H; replace H := bd H; obtain ⟨t246, A23, H⟩ := H; replace H := sb H
       rcases H with ⟨rfl, H⟩ | ⟨rfl, H⟩
       ·
        replace H := bd H; obtain ⟨t247, A25, H⟩ := H; replace H := sb H
        rcases H with ⟨rfl, H⟩ | ⟨rfl, H⟩
        ·
         have c27b0 := eq_true (of_decide_eq_true (by assumption) : 0 ≤ x4_2)
         replace H := ne_ H; obtain ⟨c28b0, c28b1, H⟩ := H
         obtain ⟨y248, Ny248⟩ := nm (l0_2.take (x4_2 : Int).toNat)
         rw [← Ny248.out] at H
         (try rw [Option.bind_some] at H)
         replace H := bd H; obtain ⟨t252, A29, H⟩ := H; replace H := sp H
         rcases H with ⟨c30, H⟩ | ⟨c30, H⟩
         ·
          have c30b0 : decide (0 ≤ t252) = true := decide_eq_true c30
          clear c30
          obtain rfl := Option.some.inj H
          obtain ⟨hcz31_0, hcz31_1, hcz31_2, hfz31_0, hfz31_1, hfz31_2⟩ := cz3 BK241.out
          have p244 := zi x4_2
          have q244 := zj x4_2 l0_2.length
          obtain ⟨ad244, e244, hx244_0, hx244_1⟩ := at_T69 HR0_2.out x4_2 p244 q244
          cases e244
          replace hx244_0 := cl HB.out hx244_0
          replace hx244_1 := cl HB.out hx244_1
          replace p244 := eq_true p244
          replace q244 := eq_true q244
          try go_wp2_with (first | (refine gate_dst (N := 5) rfl ?_; (try (refine gate_guard (by rfl) ?_; dsimp only)); refine bE 5 #[.string (⟨#[]⟩ : ByteArray), .string (⟨#[]⟩ : ByteArray)] 69 ?_; intro gb245 hg w32 hbox hb; have BK245 := ak (hbox); have GW245 := ak ((by rw [hg]; exact (below_size bb) : w.heap.size ≤ gb245)); have GE245 := ak ((by rw [hg]; exact (below_size bb) : w.heap.size ≤ gb245)); have NB241_245 := ak ((by rw [hg]; exact Nat.ne_of_lt (blk_lt (ub BK241.out)) : gb241 ≠ gb245)); have NB245_241 := ak ((by rw [hg]; exact Nat.ne_of_gt (blk_lt (ub BK241.out)) : gb245 ≠ gb241)); replace BK241 := kb BK241 hb; replace HB := ak (below_step bb hb); clear hb hbox hg; have hnb33 := NB245_241.out; have hnc33 := NB241_245.out; obtain ⟨hcz34_0, hcz34_1, hfz34_0, hfz34_1⟩ := cz2 BK245.out))
          have n0_ : Aside0 (((w32.setCell ⟨gb245, 0, none⟩ (.string ((rd_T69 l0_2 x4_2).f0))).setCell ⟨gb245, 1, none⟩ (.string ((rd_T69 l0_2 x4_2).f1))).heap[gb241]? = some (.cells #[.string a0_0, .string a0_1, .slice (some ad244) l0_2.length c0_2] 61 (0, 0))) := ⟨by (with_reducible repeat (first | refine blk_drewN ?_ _ | refine blk_drew ?_ | refine blk_alloc ?_ _)); refine blk_far ?_ NB241_245.out _; (with_reducible repeat (first | refine blk_drewN ?_ _ | refine blk_drew ?_ | refine blk_alloc ?_ _)); refine blk_far ?_ NB241_245.out _; (with_reducible repeat (first | refine blk_drewN ?_ _ | refine blk_drew ?_ | refine blk_alloc ?_ _)); exact BK241.out⟩
          have n1_ : Aside0 (((w32.setCell ⟨gb245, 0, none⟩ (.string ((rd_T69 l0_2 x4_2).f0))).setCell ⟨gb245, 1, none⟩ (.string ((rd_T69 l0_2 x4_2).f1))).heap[gb245]? = some (.cells #[.string ((rd_T69 l0_2 x4_2).f0), .string ((rd_T69 l0_2 x4_2).f1)] 69 (0, 0))) := ⟨by (with_reducible repeat (first | refine blk_drewN ?_ _ | refine blk_drew ?_ | refine blk_alloc ?_ _)); refine blk_put (cs := #[.string ((rd_T69 l0_2 x4_2).f0), .string (⟨#[]⟩ : ByteArray)]) ?_ 1 _ rfl; (with_reducible repeat (first | refine blk_drewN ?_ _ | refine blk_drew ?_ | refine blk_alloc ?_ _)); refine blk_put (cs := #[.string (⟨#[]⟩ : ByteArray), .string (⟨#[]⟩ : ByteArray)]) ?_ 0 _ rfl; (with_reducible repeat (first | refine blk_drewN ?_ _ | refine blk_drew ?_ | refine blk_alloc ?_ _)); exact BK245.out⟩
          have n2_ : Aside0 (Below w.heap.size w ((w32.setCell ⟨gb245, 0, none⟩ (.string ((rd_T69 l0_2 x4_2).f0))).setCell ⟨gb245, 1, none⟩ (.string ((rd_T69 l0_2 x4_2).f1)))) := ⟨bb⟩
          (try clear BK241)
          (try clear BK245)
          (try clear HB)
          generalize ((w32.setCell ⟨gb245, 0, none⟩ (.string ((rd_T69 l0_2 x4_2).f0))).setCell ⟨gb245, 1, none⟩ (.string ((rd_T69 l0_2 x4_2).f1))) = w35 at n0_ n1_ n2_ ⊢
          have BK241 := n0_
          have BK245 := n1_
          have HB := n2_
          clear n0_ n1_ n2_
          replace BK241 := ak (blk_drew BK241.out)
          replace BK245 := ak (blk_drew BK245.out)
          replace HB := ak (below_drew1 HB.out)
          refine ro [2, 7, 17] [0, 1, 2, 3, 4, 5, 6, 7, 8, 9, 10, 11, 13, 15, 12, 14, 16, 17, 18, 19] (fun w' => w'.cell? ⟨gb245, 0, none⟩ = some (.string ((rd_T69 l0_2 x4_2).f0)) ∧ w'.cell? ⟨gb245, 1, none⟩ = some (.string ((rd_T69 l0_2 x4_2).f1)) ∧ w'.cell? ⟨gb241, 0, none⟩ = some (.string a0_0) ∧ w'.cell? ⟨gb241, 1, none⟩ = some (.string a0_1) ∧ w'.cell? ⟨gb241, 2, none⟩ = some (.slice (some ad244) l0_2.length c0_2)) ⟨(blk_cell BK245.out 0).trans rfl, (blk_cell BK245.out 1).trans rfl, (blk_cell BK241.out 0).trans rfl, (blk_cell BK241.out 1).trans rfl, (blk_cell BK241.out 2).trans rfl⟩ ?_
          generalize w35.drew = w36 at BK241 BK245 HB ⊢
          repeat (refine lk (v := ?_) (a' := ?_) (gk.trans rfl) rfl rfl ?_ ?_ ?_; rotate_left; (focus (rintro w' ⟨s0, s1, s2, s3, s4⟩; go_simp; with_reducible rfl)); rotate_left; (focus (simp only [Act.put, l_a, l_b, l_c, i64_w, i32_w]; rfl)))
          refine ld (N := some 44) (gk.trans rfl) rfl rfl (fun K hK => ?_)
          refine goes_ Tryz.func200 (by kernel_rfl) rfl #[.string ((rd_T69 l0_2 x4_2).f0)] (by rfl) rfl rfl ma ?_
          with_reducible refine (spec_l7Word.calls k2 ((rd_T69 l0_2 x4_2).f0) true _ A23.out).mono ?_
          rintro e w37 ⟨rfl, hb⟩
          refine ⟨_, rfl, ?_⟩
          replace BK241 := kb BK241 hb
          replace BK245 := kb BK245 hb
          replace HB := ak (below_step bb hb)
          (try clear hb)
          refine hK.out _ _ ⟨(blk_cell BK245.out 0).trans rfl, (blk_cell BK245.out 1).trans rfl, (blk_cell BK241.out 0).trans rfl, (blk_cell BK241.out 1).trans rfl, (blk_cell BK241.out 2).trans rfl⟩ ?_
          clear hK K
          refine no (a' := ?_) ?_ ?_
          rotate_left
          ·
           show Act.put _ (some 44) _ = _
           simp only [Act.put, l_a, l_b, l_c, i64_w, i32_w]
           rfl
          repeat (refine lk (v := ?_) (a' := ?_) (gk.trans rfl) rfl rfl ?_ ?_ ?_; rotate_left; (focus (rintro w' ⟨s0, s1, s2, s3, s4⟩; go_simp; with_reducible rfl)); rotate_left; (focus (simp only [Act.put, l_a, l_b, l_c, i64_w, i32_w]; rfl)))
          refine ld (N := some 49) (gk.trans rfl) rfl rfl (fun K hK => ?_)
          refine goes_ Tryz.func201 (by kernel_rfl) rfl #[.string ((rd_T69 l0_2 x4_2).f1)] (by rfl) rfl rfl ma ?_
          with_reducible refine (spec_l2Name.calls k2 ((rd_T69 l0_2 x4_2).f1) true _ A25.out).mono ?_
          rintro e w' ⟨rfl, ⟨nd, rfl⟩⟩
          refine ⟨_, rfl, ?_⟩
          have q38 : (x4_2 : Int) ≤ ((l0_2.length : Int) : Int) := of_decide_eq_true (by assumption)
          obtain ⟨i038, hi038, _, hsz38, _⟩ := info_parts info69
          have hroom38 : l0_2.length ≤ c0_2 := HC0_2.out
          have hC38 : Kd.C k69 _ (some ad244) l0_2.length l0_2 := HR0_2.out
          have hcut38 := cut_to (P := Tryz.prog) 25 69 .i64 Tryz.underlying25 hi038 (some ad244) l0_2.length c0_2 x4_2 (of_decide_eq_true (by assumption)) q38 hroom38
          have hr38 := Kd.C_take (m := (x4_2 : Int).toNat) hC38 (by omega)
          have hy38 : y248.length = (x4_2 : Int).toNat := (by rw [Ny248.out, List.length_take]; omega)
          rw [← Ny248.out] at hr38
          rw [← hy38] at hcut38
          have HR251 := ak hr38
          have HC251 := ak (show y248.length ≤ c0_2 from by omega)
          clear hr38 hC38 hroom38 hi038 hsz38
          have KY38 := ak hy38
          clear hy38
          replace q38 := eq_true q38
          refine hK.out _ _ ⟨(blk_cell BK245.out 0).trans rfl, (blk_cell BK245.out 1).trans rfl, (blk_cell BK241.out 0).trans rfl, (blk_cell BK241.out 1).trans rfl, (blk_cell BK241.out 2).trans rfl⟩ ?_
          clear hK K
          refine no (a' := ?_) ?_ ?_
          rotate_left
          ·
           show Act.put _ (some 49) _ = _
           simp only [Act.put, l_a, l_b, l_c, i64_w, i32_w]
           rfl
          repeat (refine lk (v := ?_) (a' := ?_) (gk.trans rfl) rfl rfl ?_ ?_ ?_; rotate_left; (focus (rintro w' ⟨s0, s1, s2, s3, s4⟩; go_simp; with_reducible rfl)); rotate_left; (focus (simp only [Act.put, l_a, l_b, l_c, i64_w, i32_w]; rfl)))
          refine ld (N := some 59) (gk.trans rfl) rfl rfl (fun K hK => ?_)
          refine goes_ Tryz.func177 (by kernel_rfl) rfl #[.slice (some ad244) y248.length c0_2, .string ((rd_T69 l0_2 x4_2).f0)] (by rfl) rfl rfl ma ?_
          with_reducible refine (spec_l3Find.calls k2 _ _ y248 ((rd_T69 l0_2 x4_2).f0) t252 _ ?side1 ?side2 A29.out).mono ?_
          (case side1 => repeat (first | exact (Kd.C_below HR251.out bb) | (with_reducible refine Kd.C_alloc ?_ _) | (with_reducible refine Kd.C_drewN ?_ _) | (with_reducible refine Kd.C_drew ?_)))
          (case side2 => exact HC251.out)
          rintro e w39 ⟨rfl, hb⟩
          refine ⟨_, rfl, ?_⟩
          replace BK241 := kb BK241 hb
          replace BK245 := kb BK245 hb
          replace HB := ak (below_step bb hb)
          (try clear hb)
          refine hK.out _ _ ⟨(blk_cell BK245.out 0).trans rfl, (blk_cell BK245.out 1).trans rfl, (blk_cell BK241.out 0).trans rfl, (blk_cell BK241.out 1).trans rfl, (blk_cell BK241.out 2).trans rfl⟩ ?_
          clear hK K
          refine no (a' := ?_) ?_ ?_
          rotate_left
          ·
           show Act.put _ (some 59) _ = _
           simp only [Act.put, l_a, l_b, l_c, i64_w, i32_w]
           rfl
          repeat (refine lk (v := ?_) (a' := ?_) (gk.trans rfl) rfl rfl ?_ ?_ ?_; rotate_left; (focus (rintro w' ⟨s0, s1, s2, s3, s4⟩; go_simp; with_reducible rfl)); rotate_left; (focus (simp only [Act.put, l_a, l_b, l_c, i64_w, i32_w]; rfl)))
          refine on ?_
          try go_wp2
          go_ret
          exact ⟨er, bb⟩
         ·
          have c30b0 : decide (0 ≤ t252) = false := decide_eq_false c30
          clear c30
          replace H := bd H; obtain ⟨t253, A40, H⟩ := H
          have H' := ak H; clear H
          obtain ⟨hcz41_0, hcz41_1, hcz41_2, hfz41_0, hfz41_1, hfz41_2⟩ := cz3 BK241.out
          have p244 := zi x4_2
          have q244 := zj x4_2 l0_2.length
          obtain ⟨ad244, e244, hx244_0, hx244_1⟩ := at_T69 HR0_2.out x4_2 p244 q244
          cases e244
          replace hx244_0 := cl HB.out hx244_0
          replace hx244_1 := cl HB.out hx244_1
          replace p244 := eq_true p244
          replace q244 := eq_true q244
          try go_wp2_with (first | (refine gate_dst (N := 5) rfl ?_; (try (refine gate_guard (by rfl) ?_; dsimp only)); refine bE 5 #[.string (⟨#[]⟩ : ByteArray), .string (⟨#[]⟩ : ByteArray)] 69 ?_; intro gb245 hg w42 hbox hb; have BK245 := ak (hbox); have GW245 := ak ((by rw [hg]; exact (below_size bb) : w.heap.size ≤ gb245)); have GE245 := ak ((by rw [hg]; exact (below_size bb) : w.heap.size ≤ gb245)); have NB241_245 := ak ((by rw [hg]; exact Nat.ne_of_lt (blk_lt (ub BK241.out)) : gb241 ≠ gb245)); have NB245_241 := ak ((by rw [hg]; exact Nat.ne_of_gt (blk_lt (ub BK241.out)) : gb245 ≠ gb241)); replace BK241 := kb BK241 hb; replace HB := ak (below_step bb hb); clear hb hbox hg; have hnb43 := NB245_241.out; have hnc43 := NB241_245.out; obtain ⟨hcz44_0, hcz44_1, hfz44_0, hfz44_1⟩ := cz2 BK245.out))
          have n0_ : Aside0 (((w42.setCell ⟨gb245, 0, none⟩ (.string ((rd_T69 l0_2 x4_2).f0))).setCell ⟨gb245, 1, none⟩ (.string ((rd_T69 l0_2 x4_2).f1))).heap[gb241]? = some (.cells #[.string a0_0, .string a0_1, .slice (some ad244) l0_2.length c0_2] 61 (0, 0))) := ⟨by (with_reducible repeat (first | refine blk_drewN ?_ _ | refine blk_drew ?_ | refine blk_alloc ?_ _)); refine blk_far ?_ NB241_245.out _; (with_reducible repeat (first | refine blk_drewN ?_ _ | refine blk_drew ?_ | refine blk_alloc ?_ _)); refine blk_far ?_ NB241_245.out _; (with_reducible repeat (first | refine blk_drewN ?_ _ | refine blk_drew ?_ | refine blk_alloc ?_ _)); exact BK241.out⟩
          have n1_ : Aside0 (((w42.setCell ⟨gb245, 0, none⟩ (.string ((rd_T69 l0_2 x4_2).f0))).setCell ⟨gb245, 1, none⟩ (.string ((rd_T69 l0_2 x4_2).f1))).heap[gb245]? = some (.cells #[.string ((rd_T69 l0_2 x4_2).f0), .string ((rd_T69 l0_2 x4_2).f1)] 69 (0, 0))) := ⟨by (with_reducible repeat (first | refine blk_drewN ?_ _ | refine blk_drew ?_ | refine blk_alloc ?_ _)); refine blk_put (cs := #[.string ((rd_T69 l0_2 x4_2).f0), .string (⟨#[]⟩ : ByteArray)]) ?_ 1 _ rfl; (with_reducible repeat (first | refine blk_drewN ?_ _ | refine blk_drew ?_ | refine blk_alloc ?_ _)); refine blk_put (cs := #[.string (⟨#[]⟩ : ByteArray), .string (⟨#[]⟩ : ByteArray)]) ?_ 0 _ rfl; (with_reducible repeat (first | refine blk_drewN ?_ _ | refine blk_drew ?_ | refine blk_alloc ?_ _)); exact BK245.out⟩
          have n2_ : Aside0 (Below w.heap.size w ((w42.setCell ⟨gb245, 0, none⟩ (.string ((rd_T69 l0_2 x4_2).f0))).setCell ⟨gb245, 1, none⟩ (.string ((rd_T69 l0_2 x4_2).f1)))) := ⟨bb⟩
          (try clear BK241)
          (try clear BK245)
          (try clear HB)
          generalize ((w42.setCell ⟨gb245, 0, none⟩ (.string ((rd_T69 l0_2 x4_2).f0))).setCell ⟨gb245, 1, none⟩ (.string ((rd_T69 l0_2 x4_2).f1))) = w45 at n0_ n1_ n2_ ⊢
          have BK241 := n0_
          have BK245 := n1_
          have HB := n2_
          clear n0_ n1_ n2_
          replace BK241 := ak (blk_drew BK241.out)
          replace BK245 := ak (blk_drew BK245.out)
          replace HB := ak (below_drew1 HB.out)
          refine ro [2, 7, 17] [0, 1, 2, 3, 4, 5, 6, 7, 8, 9, 10, 11, 13, 15, 12, 14, 16, 17, 18, 19] (fun w' => w'.cell? ⟨gb245, 0, none⟩ = some (.string ((rd_T69 l0_2 x4_2).f0)) ∧ w'.cell? ⟨gb245, 1, none⟩ = some (.string ((rd_T69 l0_2 x4_2).f1)) ∧ w'.cell? ⟨gb241, 0, none⟩ = some (.string a0_0) ∧ w'.cell? ⟨gb241, 1, none⟩ = some (.string a0_1) ∧ w'.cell? ⟨gb241, 2, none⟩ = some (.slice (some ad244) l0_2.length c0_2)) ⟨(blk_cell BK245.out 0).trans rfl, (blk_cell BK245.out 1).trans rfl, (blk_cell BK241.out 0).trans rfl, (blk_cell BK241.out 1).trans rfl, (blk_cell BK241.out 2).trans rfl⟩ ?_
          generalize w45.drew = w46 at BK241 BK245 HB ⊢
          repeat (refine lk (v := ?_) (a' := ?_) (gk.trans rfl) rfl rfl ?_ ?_ ?_; rotate_left; (focus (rintro w' ⟨s0, s1, s2, s3, s4⟩; go_simp; with_reducible rfl)); rotate_left; (focus (simp only [Act.put, l_a, l_b, l_c, i64_w, i32_w]; rfl)))
          refine ld (N := some 44) (gk.trans rfl) rfl rfl (fun K hK => ?_)
          refine goes_ Tryz.func200 (by kernel_rfl) rfl #[.string ((rd_T69 l0_2 x4_2).f0)] (by rfl) rfl rfl ma ?_
          with_reducible refine (spec_l7Word.calls k2 ((rd_T69 l0_2 x4_2).f0) true _ A23.out).mono ?_
          rintro e w47 ⟨rfl, hb⟩
          refine ⟨_, rfl, ?_⟩
          replace BK241 := kb BK241 hb
          replace BK245 := kb BK245 hb
          replace HB := ak (below_step bb hb)
          (try clear hb)
          refine hK.out _ _ ⟨(blk_cell BK245.out 0).trans rfl, (blk_cell BK245.out 1).trans rfl, (blk_cell BK241.out 0).trans rfl, (blk_cell BK241.out 1).trans rfl, (blk_cell BK241.out 2).trans rfl⟩ ?_
          clear hK K
          refine no (a' := ?_) ?_ ?_
          rotate_left
          ·
           show Act.put _ (some 44) _ = _
           simp only [Act.put, l_a, l_b, l_c, i64_w, i32_w]
           rfl
          repeat (refine lk (v := ?_) (a' := ?_) (gk.trans rfl) rfl rfl ?_ ?_ ?_; rotate_left; (focus (rintro w' ⟨s0, s1, s2, s3, s4⟩; go_simp; with_reducible rfl)); rotate_left; (focus (simp only [Act.put, l_a, l_b, l_c, i64_w, i32_w]; rfl)))
          refine ld (N := some 49) (gk.trans rfl) rfl rfl (fun K hK => ?_)
          refine goes_ Tryz.func201 (by kernel_rfl) rfl #[.string ((rd_T69 l0_2 x4_2).f1)] (by rfl) rfl rfl ma ?_
          with_reducible refine (spec_l2Name.calls k2 ((rd_T69 l0_2 x4_2).f1) true _ A25.out).mono ?_
          rintro e w' ⟨rfl, ⟨nd, rfl⟩⟩
          refine ⟨_, rfl, ?_⟩
          have q48 : (x4_2 : Int) ≤ ((l0_2.length : Int) : Int) := of_decide_eq_true (by assumption)
          obtain ⟨i048, hi048, _, hsz48, _⟩ := info_parts info69
          have hroom48 : l0_2.length ≤ c0_2 := HC0_2.out
          have hC48 : Kd.C k69 _ (some ad244) l0_2.length l0_2 := HR0_2.out
          have hcut48 := cut_to (P := Tryz.prog) 25 69 .i64 Tryz.underlying25 hi048 (some ad244) l0_2.length c0_2 x4_2 (of_decide_eq_true (by assumption)) q48 hroom48
          have hr48 := Kd.C_take (m := (x4_2 : Int).toNat) hC48 (by omega)
          have hy48 : y248.length = (x4_2 : Int).toNat := (by rw [Ny248.out, List.length_take]; omega)
          rw [← Ny248.out] at hr48
          rw [← hy48] at hcut48
          have HR251 := ak hr48
          have HC251 := ak (show y248.length ≤ c0_2 from by omega)
          clear hr48 hC48 hroom48 hi048 hsz48
          have KY48 := ak hy48
          clear hy48
          replace q48 := eq_true q48
          refine hK.out _ _ ⟨(blk_cell BK245.out 0).trans rfl, (blk_cell BK245.out 1).trans rfl, (blk_cell BK241.out 0).trans rfl, (blk_cell BK241.out 1).trans rfl, (blk_cell BK241.out 2).trans rfl⟩ ?_
          clear hK K
          refine no (a' := ?_) ?_ ?_
          rotate_left
          ·
           show Act.put _ (some 49) _ = _
           simp only [Act.put, l_a, l_b, l_c, i64_w, i32_w]
           rfl
          repeat (refine lk (v := ?_) (a' := ?_) (gk.trans rfl) rfl rfl ?_ ?_ ?_; rotate_left; (focus (rintro w' ⟨s0, s1, s2, s3, s4⟩; go_simp; with_reducible rfl)); rotate_left; (focus (simp only [Act.put, l_a, l_b, l_c, i64_w, i32_w]; rfl)))
          refine ld (N := some 59) (gk.trans rfl) rfl rfl (fun K hK => ?_)
          refine goes_ Tryz.func177 (by kernel_rfl) rfl #[.slice (some ad244) y248.length c0_2, .string ((rd_T69 l0_2 x4_2).f0)] (by rfl) rfl rfl ma ?_
          with_reducible refine (spec_l3Find.calls k2 _ _ y248 ((rd_T69 l0_2 x4_2).f0) t252 _ ?side1 ?side2 A29.out).mono ?_
          (case side1 => repeat (first | exact (Kd.C_below HR251.out bb) | (with_reducible refine Kd.C_alloc ?_ _) | (with_reducible refine Kd.C_drewN ?_ _) | (with_reducible refine Kd.C_drew ?_)))
          (case side2 => exact HC251.out)
          rintro e w49 ⟨rfl, hb⟩
          refine ⟨_, rfl, ?_⟩
          replace BK241 := kb BK241 hb
          replace BK245 := kb BK245 hb
          replace HB := ak (below_step bb hb)
          (try clear hb)
          refine hK.out _ _ ⟨(blk_cell BK245.out 0).trans rfl, (blk_cell BK245.out 1).trans rfl, (blk_cell BK241.out 0).trans rfl, (blk_cell BK241.out 1).trans rfl, (blk_cell BK241.out 2).trans rfl⟩ ?_
          clear hK K
          refine no (a' := ?_) ?_ ?_
          rotate_left
          ·
           show Act.put _ (some 59) _ = _
           simp only [Act.put, l_a, l_b, l_c, i64_w, i32_w]
           rfl
          repeat (refine lk (v := ?_) (a' := ?_) (gk.trans rfl) rfl rfl ?_ ?_ ?_; rotate_left; (focus (rintro w' ⟨s0, s1, s2, s3, s4⟩; go_simp; with_reducible rfl)); rotate_left; (focus (simp only [Act.put, l_a, l_b, l_c, i64_w, i32_w]; rfl)))
          refine on ?_
          try go_wp2
          replace BK241 := ak (blk_drew BK241.out)
          replace BK245 := ak (blk_drew BK245.out)
          replace HB := ak (below_drew1 HB.out)
          refine ro [8] [0, 1, 2, 6, 3, 4, 5, 7, 8, 9, 10, 11] (fun w' => w'.cell? ⟨gb245, 0, none⟩ = some (.string ((rd_T69 l0_2 x4_2).f0)) ∧ w'.cell? ⟨gb245, 1, none⟩ = some (.string ((rd_T69 l0_2 x4_2).f1))) ⟨(blk_cell BK245.out 0).trans rfl, (blk_cell BK245.out 1).trans rfl⟩ ?_
          generalize w49.drew = w50 at BK241 BK245 HB ⊢
          repeat (refine lk (v := ?_) (a' := ?_) (gk.trans rfl) rfl rfl ?_ ?_ ?_; rotate_left; (focus (rintro w' ⟨s0, s1⟩; go_simp; with_reducible rfl)); rotate_left; (focus (simp only [Act.put, l_a, l_b, l_c, i64_w, i32_w]; rfl)))
          refine ld (N := some 70) (gk.trans rfl) rfl rfl (fun K hK => ?_)
          refine goes_ Tryz.func202 (by kernel_rfl) rfl #[.string ((rd_T69 l0_2 x4_2).f1)] (by rfl) rfl rfl ma ?_
          with_reducible refine (spec_QuoteWord.calls k2 ((rd_T69 l0_2 x4_2).f1) t253 _ A40.out).mono ?_
          rintro e w51 ⟨rfl, hb⟩
          refine ⟨_, rfl, ?_⟩
          replace BK241 := kb BK241 hb
          replace BK245 := kb BK245 hb
          replace HB := ak (below_step bb hb)
          (try clear hb)
          refine hK.out _ _ ⟨(blk_cell BK245.out 0).trans rfl, (blk_cell BK245.out 1).trans rfl⟩ ?_
          clear hK K
          refine no (a' := ?_) ?_ ?_
          rotate_left
          ·
           show Act.put _ (some 70) _ = _
           simp only [Act.put, l_a, l_b, l_c, i64_w, i32_w]
           rfl
          repeat (refine lk (v := ?_) (a' := ?_) (gk.trans rfl) rfl rfl ?_ ?_ ?_; rotate_left; (focus (rintro w' ⟨s0, s1⟩; go_simp; with_reducible rfl)); rotate_left; (focus (simp only [Act.put, l_a, l_b, l_c, i64_w, i32_w]; rfl)))
          refine on ?_
          try go_wp2
          go_roundg k2
          case measure => have := HJ1.out; have := HK2.out; omega
          case rel => exact ⟨(wrap64 ((wrap64 ((wrap64 (x3_2 + 3)) + (((rd_T69 l0_2 x4_2).f0).size : Int))) + (t253.size : Int))), (wrap64 (x4_2 + 1)), rs, rs, H', ⟨by have := HJ1.out; have := HK2.out; omega⟩, ⟨ub BK241.out⟩, ⟨bb⟩⟩
        ·
         obtain rfl := Option.some.inj H
         obtain ⟨hcz52_0, hcz52_1, hcz52_2, hfz52_0, hfz52_1, hfz52_2⟩ := cz3 BK241.out
         have p244 := zi x4_2
         have q244 := zj x4_2 l0_2.length
         obtain ⟨ad244, e244, hx244_0, hx244_1⟩ := at_T69 HR0_2.out x4_2 p244 q244
         cases e244
         replace hx244_0 := cl HB.out hx244_0
         replace hx244_1 := cl HB.out hx244_1
         replace p244 := eq_true p244
         replace q244 := eq_true q244
         try go_wp2_with (first | (refine gate_dst (N := 5) rfl ?_; (try (refine gate_guard (by rfl) ?_; dsimp only)); refine bE 5 #[.string (⟨#[]⟩ : ByteArray), .string (⟨#[]⟩ : ByteArray)] 69 ?_; intro gb245 hg w53 hbox hb; have BK245 := ak (hbox); have GW245 := ak ((by rw [hg]; exact (below_size bb) : w.heap.size ≤ gb245)); have GE245 := ak ((by rw [hg]; exact (below_size bb) : w.heap.size ≤ gb245)); have NB241_245 := ak ((by rw [hg]; exact Nat.ne_of_lt (blk_lt (ub BK241.out)) : gb241 ≠ gb245)); have NB245_241 := ak ((by rw [hg]; exact Nat.ne_of_gt (blk_lt (ub BK241.out)) : gb245 ≠ gb241)); replace BK241 := kb BK241 hb; replace HB := ak (below_step bb hb); clear hb hbox hg; have hnb54 := NB245_241.out; have hnc54 := NB241_245.out; obtain ⟨hcz55_0, hcz55_1, hfz55_0, hfz55_1⟩ := cz2 BK245.out))
         have n0_ : Aside0 (((w53.setCell ⟨gb245, 0, none⟩ (.string ((rd_T69 l0_2 x4_2).f0))).setCell ⟨gb245, 1, none⟩ (.string ((rd_T69 l0_2 x4_2).f1))).heap[gb241]? = some (.cells #[.string a0_0, .string a0_1, .slice (some ad244) l0_2.length c0_2] 61 (0, 0))) := ⟨by (with_reducible repeat (first | refine blk_drewN ?_ _ | refine blk_drew ?_ | refine blk_alloc ?_ _)); refine blk_far ?_ NB241_245.out _; (with_reducible repeat (first | refine blk_drewN ?_ _ | refine blk_drew ?_ | refine blk_alloc ?_ _)); refine blk_far ?_ NB241_245.out _; (with_reducible repeat (first | refine blk_drewN ?_ _ | refine blk_drew ?_ | refine blk_alloc ?_ _)); exact BK241.out⟩
         have n1_ : Aside0 (((w53.setCell ⟨gb245, 0, none⟩ (.string ((rd_T69 l0_2 x4_2).f0))).setCell ⟨gb245, 1, none⟩ (.string ((rd_T69 l0_2 x4_2).f1))).heap[gb245]? = some (.cells #[.string ((rd_T69 l0_2 x4_2).f0), .string ((rd_T69 l0_2 x4_2).f1)] 69 (0, 0))) := ⟨by (with_reducible repeat (first | refine blk_drewN ?_ _ | refine blk_drew ?_ | refine blk_alloc ?_ _)); refine blk_put (cs := #[.string ((rd_T69 l0_2 x4_2).f0), .string (⟨#[]⟩ : ByteArray)]) ?_ 1 _ rfl; (with_reducible repeat (first | refine blk_drewN ?_ _ | refine blk_drew ?_ | refine blk_alloc ?_ _)); refine blk_put (cs := #[.string (⟨#[]⟩ : ByteArray), .string (⟨#[]⟩ : ByteArray)]) ?_ 0 _ rfl; (with_reducible repeat (first | refine blk_drewN ?_ _ | refine blk_drew ?_ | refine blk_alloc ?_ _)); exact BK245.out⟩
         have n2_ : Aside0 (Below w.heap.size w ((w53.setCell ⟨gb245, 0, none⟩ (.string ((rd_T69 l0_2 x4_2).f0))).setCell ⟨gb245, 1, none⟩ (.string ((rd_T69 l0_2 x4_2).f1)))) := ⟨bb⟩
         (try clear BK241)
         (try clear BK245)
         (try clear HB)
         generalize ((w53.setCell ⟨gb245, 0, none⟩ (.string ((rd_T69 l0_2 x4_2).f0))).setCell ⟨gb245, 1, none⟩ (.string ((rd_T69 l0_2 x4_2).f1))) = w56 at n0_ n1_ n2_ ⊢
         have BK241 := n0_
         have BK245 := n1_
         have HB := n2_
         clear n0_ n1_ n2_
         replace BK241 := ak (blk_drew BK241.out)
         replace BK245 := ak (blk_drew BK245.out)
         replace HB := ak (below_drew1 HB.out)
         refine ro [2, 7] [0, 1, 2, 3, 4, 5, 6, 7, 8, 9, 10, 11, 12, 13, 14, 15, 16, 17, 18, 19] (fun w' => w'.cell? ⟨gb245, 0, none⟩ = some (.string ((rd_T69 l0_2 x4_2).f0)) ∧ w'.cell? ⟨gb245, 1, none⟩ = some (.string ((rd_T69 l0_2 x4_2).f1))) ⟨(blk_cell BK245.out 0).trans rfl, (blk_cell BK245.out 1).trans rfl⟩ ?_
         generalize w56.drew = w57 at BK241 BK245 HB ⊢
         repeat (first | (refine lk (v := ?_) (a' := ?_) (gk.trans rfl) rfl rfl ?_ ?_ ?_; rotate_left; (focus (rintro w' ⟨s0, s1⟩; go_simp; with_reducible rfl)); rotate_left; (focus (simp only [Act.put, l_a, l_b, l_c, i64_w, i32_w]; rfl))) | (refine lf (a' := ?_) (gk.trans rfl) rfl rfl ?_ ?_; rotate_left; (focus (simp only [Act.put, l_a, l_b, l_c, i64_w, i32_w]; rfl))))
         refine ld (N := some 44) (gk.trans rfl) rfl rfl (fun K hK => ?_)
         refine goes_ Tryz.func200 (by kernel_rfl) rfl #[.string ((rd_T69 l0_2 x4_2).f0)] (by rfl) rfl rfl ma ?_
         with_reducible refine (spec_l7Word.calls k2 ((rd_T69 l0_2 x4_2).f0) true _ A23.out).mono ?_
         rintro e w58 ⟨rfl, hb⟩
         refine ⟨_, rfl, ?_⟩
         replace BK241 := kb BK241 hb
         replace BK245 := kb BK245 hb
         replace HB := ak (below_step bb hb)
         (try clear hb)
         refine hK.out _ _ ⟨(blk_cell BK245.out 0).trans rfl, (blk_cell BK245.out 1).trans rfl⟩ ?_
         clear hK K
         refine no (a' := ?_) ?_ ?_
         rotate_left
         ·
          show Act.put _ (some 44) _ = _
          simp only [Act.put, l_a, l_b, l_c, i64_w, i32_w]
          rfl
         repeat (first | (refine lk (v := ?_) (a' := ?_) (gk.trans rfl) rfl rfl ?_ ?_ ?_; rotate_left; (focus (rintro w' ⟨s0, s1⟩; go_simp; with_reducible rfl)); rotate_left; (focus (simp only [Act.put, l_a, l_b, l_c, i64_w, i32_w]; rfl))) | (refine lf (a' := ?_) (gk.trans rfl) rfl rfl ?_ ?_; rotate_left; (focus (simp only [Act.put, l_a, l_b, l_c, i64_w, i32_w]; rfl))))
         refine ld (N := some 49) (gk.trans rfl) rfl rfl (fun K hK => ?_)
         refine goes_ Tryz.func201 (by kernel_rfl) rfl #[.string ((rd_T69 l0_2 x4_2).f1)] (by rfl) rfl rfl ma ?_
         with_reducible refine (spec_l2Name.calls k2 ((rd_T69 l0_2 x4_2).f1) false _ A25.out).mono ?_
         rintro e w' ⟨rfl, ⟨nd, rfl⟩⟩
         refine ⟨_, rfl, ?_⟩
         refine hK.out _ _ ⟨(blk_cell BK245.out 0).trans rfl, (blk_cell BK245.out 1).trans rfl⟩ ?_
         clear hK K
         refine no (a' := ?_) ?_ ?_
         rotate_left
         ·
          show Act.put _ (some 49) _ = _
          simp only [Act.put, l_a, l_b, l_c, i64_w, i32_w]
          rfl
         repeat (first | (refine lk (v := ?_) (a' := ?_) (gk.trans rfl) rfl rfl ?_ ?_ ?_; rotate_left; (focus (rintro w' ⟨s0, s1⟩; go_simp; with_reducible rfl)); rotate_left; (focus (simp only [Act.put, l_a, l_b, l_c, i64_w, i32_w]; rfl))) | (refine lf (a' := ?_) (gk.trans rfl) rfl rfl ?_ ?_; rotate_left; (focus (simp only [Act.put, l_a, l_b, l_c, i64_w, i32_w]; rfl))))
         refine on ?_
         try go_wp2
         go_ret
         exact ⟨er, bb⟩
       ·
        obtain rfl := Option.some.inj H
        obtain ⟨hcz59_0, hcz59_1, hcz59_2, hfz59_0, hfz59_1, hfz59_2⟩ := cz3 BK241.out
        have p244 := zi x4_2
        have q244 := zj x4_2 l0_2.length
        obtain ⟨ad244, e244, hx244_0, hx244_1⟩ := at_T69 HR0_2.out x4_2 p244 q244
        cases e244
        replace hx244_0 := cl HB.out hx244_0
        replace hx244_1 := cl HB.out hx244_1
        replace p244 := eq_true p244
        replace q244 := eq_true q244
        try go_wp2_with (first | (refine gate_dst (N := 5) rfl ?_; (try (refine gate_guard (by rfl) ?_; dsimp only)); refine bE 5 #[.string (⟨#[]⟩ : ByteArray), .string (⟨#[]⟩ : ByteArray)] 69 ?_; intro gb245 hg w60 hbox hb; have BK245 := ak (hbox); have GW245 := ak ((by rw [hg]; exact (below_size bb) : w.heap.size ≤ gb245)); have GE245 := ak ((by rw [hg]; exact (below_size bb) : w.heap.size ≤ gb245)); have NB241_245 := ak ((by rw [hg]; exact Nat.ne_of_lt (blk_lt (ub BK241.out)) : gb241 ≠ gb245)); have NB245_241 := ak ((by rw [hg]; exact Nat.ne_of_gt (blk_lt (ub BK241.out)) : gb245 ≠ gb241)); replace BK241 := kb BK241 hb; replace HB := ak (below_step bb hb); clear hb hbox hg; have hnb61 := NB245_241.out; have hnc61 := NB241_245.out; obtain ⟨hcz62_0, hcz62_1, hfz62_0, hfz62_1⟩ := cz2 BK245.out))
        have n0_ : Aside0 (((w60.setCell ⟨gb245, 0, none⟩ (.string ((rd_T69 l0_2 x4_2).f0))).setCell ⟨gb245, 1, none⟩ (.string ((rd_T69 l0_2 x4_2).f1))).heap[gb241]? = some (.cells #[.string a0_0, .string a0_1, .slice (some ad244) l0_2.length c0_2] 61 (0, 0))) := ⟨by (with_reducible repeat (first | refine blk_drewN ?_ _ | refine blk_drew ?_ | refine blk_alloc ?_ _)); refine blk_far ?_ NB241_245.out _; (with_reducible repeat (first | refine blk_drewN ?_ _ | refine blk_drew ?_ | refine blk_alloc ?_ _)); refine blk_far ?_ NB241_245.out _; (with_reducible repeat (first | refine blk_drewN ?_ _ | refine blk_drew ?_ | refine blk_alloc ?_ _)); exact BK241.out⟩
        have n1_ : Aside0 (((w60.setCell ⟨gb245, 0, none⟩ (.string ((rd_T69 l0_2 x4_2).f0))).setCell ⟨gb245, 1, none⟩ (.string ((rd_T69 l0_2 x4_2).f1))).heap[gb245]? = some (.cells #[.string ((rd_T69 l0_2 x4_2).f0), .string ((rd_T69 l0_2 x4_2).f1)] 69 (0, 0))) := ⟨by (with_reducible repeat (first | refine blk_drewN ?_ _ | refine blk_drew ?_ | refine blk_alloc ?_ _)); refine blk_put (cs := #[.string ((rd_T69 l0_2 x4_2).f0), .string (⟨#[]⟩ : ByteArray)]) ?_ 1 _ rfl; (with_reducible repeat (first | refine blk_drewN ?_ _ | refine blk_drew ?_ | refine blk_alloc ?_ _)); refine blk_put (cs := #[.string (⟨#[]⟩ : ByteArray), .string (⟨#[]⟩ : ByteArray)]) ?_ 0 _ rfl; (with_reducible repeat (first | refine blk_drewN ?_ _ | refine blk_drew ?_ | refine blk_alloc ?_ _)); exact BK245.out⟩
        have n2_ : Aside0 (Below w.heap.size w ((w60.setCell ⟨gb245, 0, none⟩ (.string ((rd_T69 l0_2 x4_2).f0))).setCell ⟨gb245, 1, none⟩ (.string ((rd_T69 l0_2 x4_2).f1)))) := ⟨bb⟩
        (try clear BK241)
        (try clear BK245)
        (try clear HB)
        generalize ((w60.setCell ⟨gb245, 0, none⟩ (.string ((rd_T69 l0_2 x4_2).f0))).setCell ⟨gb245, 1, none⟩ (.string ((rd_T69 l0_2 x4_2).f1))) = w63 at n0_ n1_ n2_ ⊢
        have BK241 := n0_
        have BK245 := n1_
        have HB := n2_
        clear n0_ n1_ n2_
        replace BK241 := ak (blk_drew BK241.out)
        replace BK245 := ak (blk_drew BK245.out)
        replace HB := ak (below_drew1 HB.out)
        refine ro [2] [0, 1, 2, 3, 4, 5, 6, 7, 8, 9, 10, 11, 12, 13, 14, 15, 16, 17, 18, 19] (fun w' => w'.cell? ⟨gb245, 0, none⟩ = some (.string ((rd_T69 l0_2 x4_2).f0)) ∧ w'.cell? ⟨gb245, 1, none⟩ = some (.string ((rd_T69 l0_2 x4_2).f1))) ⟨(blk_cell BK245.out 0).trans rfl, (blk_cell BK245.out 1).trans rfl⟩ ?_
        generalize w63.drew = w64 at BK241 BK245 HB ⊢
        repeat (first | (refine lk (v := ?_) (a' := ?_) (gk.trans rfl) rfl rfl ?_ ?_ ?_; rotate_left; (focus (rintro w' ⟨s0, s1⟩; go_simp; with_reducible rfl)); rotate_left; (focus (simp only [Act.put, l_a, l_b, l_c, i64_w, i32_w]; rfl))) | (refine lf (a' := ?_) (gk.trans rfl) rfl rfl ?_ ?_; rotate_left; (focus (simp only [Act.put, l_a, l_b, l_c, i64_w, i32_w]; rfl))))
        refine ld (N := some 44) (gk.trans rfl) rfl rfl (fun K hK => ?_)
        refine goes_ Tryz.func200 (by kernel_rfl) rfl #[.string ((rd_T69 l0_2 x4_2).f0)] (by rfl) rfl rfl ma ?_
        with_reducible refine (spec_l7Word.calls k2 ((rd_T69 l0_2 x4_2).f0) false _ A23.out).mono ?_
        rintro e w65 ⟨rfl, hb⟩
        refine ⟨_, rfl, ?_⟩
        replace BK241 := kb BK241 hb
        replace BK245 := kb BK245 hb
        replace HB := ak (below_step bb hb)
        (try clear hb)
        refine hK.out _ _ ⟨(blk_cell BK245.out 0).trans rfl, (blk_cell BK245.out 1).trans rfl⟩ ?_
        clear hK K
        refine no (a' := ?_) ?_ ?_
        rotate_left
        ·
         show Act.put _ (some 44) _ = _
         simp only [Act.put, l_a, l_b, l_c, i64_w, i32_w]
         rfl
        repeat (first | (refine lk (v := ?_) (a' := ?_) (gk.trans rfl) rfl rfl ?_ ?_ ?_; rotate_left; (focus (rintro w' ⟨s0, s1⟩; go_simp; with_reducible rfl)); rotate_left; (focus (simp only [Act.put, l_a, l_b, l_c, i64_w, i32_w]; rfl))) | (refine lf (a' := ?_) (gk.trans rfl) rfl rfl ?_ ?_; rotate_left; (focus (simp only [Act.put, l_a, l_b, l_c, i64_w, i32_w]; rfl))))
        refine on ?_
        try go_wp2
        go_ret
        exact ⟨er, bb⟩
      ·
       obtain rfl := Option.some.inj H
       obtain ⟨hcz66_0, hcz66_1, hcz66_2, hfz66_0, hfz66_1, hfz66_2⟩ := cz3 BK241.out
       go_wp2
       go_ret
       exact ⟨er, bb⟩
end Go.Proofs.YtncdadcmghglkaaGreatDoor.PFnExactCountParts
